import PyProof.Rows.All
import Wide.All
import OpenK.AllK
import Wide.FinOn
import HandS.ForMost
import HandS.ForExc
import HandS.CallSlots
import HandS.Defaults
import HandS.TupAny
import HandS.TupMul
import HandS.IsInst
import HandS.Strs
import HandS.TupLe
import HandS.Conv
import HandS.Style
import HandS.Deep
import KE.KStateDown
import HandS.Ends
import HandS.Head0
import HandS.Head1
import HandS.Head2
import HandS.HeadEnd
import HandS.HeadHook1
import HandS.HeadHook2
import HandS.WordsExc
import HandS.ExcOwn
import HandS.ExcIs
import HandS.ExcValue
import HandS.Dict
import HandS.DictComp
import HandS.SetKeys
import HandS.SetFor
import HandS.SortInts
import HandS.SortRule
import KE.DataCmp
import HandS.More
import PySem.Challenge.RW_hushways_k05_whole_begins
set_option Elab.async false
set_option linter.all false
set_option maxRecDepth 100000
set_option maxHeartbeats 4000000
/-! Plain values, plain runs, and what they say of the layer's readings. -/
namespace Hw
open PySem PySem.Spec L2

/-- the kinds of refusals -/
inductive Kx where
  | crowd | folk | beat | row | notes | paper | text | none
  deriving DecidableEq

/-- plain values -/
inductive PV where
  | non | bl (b : Bool) | int (i : Int) | str (x : Str)
  | tup (xs : List PV) | lst (xs : List PV)
  | dI (kvs : List (Int × PV)) | dT (kvs : List (List Int × PV))
  | exc (c : Kx) | ptr (n : Nat) | kls (ns : List Int)

/-- how an evaluation ends -/
inductive R (α : Type) where
  | ok (a : α) (S : List PV)
  | ex (c : Kx) (S : List PV)
  | bad

inductive SV where
  | un | v (x : PV) | own (x : PV) | lk (x : PV)

abbrev Sto := List PV
abbrev En := List SV
abbrev Ex := En → Sto → R PV
abbrev Exs := En → Sto → R (List PV)

inductive RS where
  | nx (env : En) (S : Sto)
  | rt (v : PV) (S : Sto)
  | bk (env : En) (S : Sto)
  | ct (env : En) (S : Sto)
  | ex (c : Kx) (env : En) (S : Sto)
  | bad
abbrev Sm := En → Sto → RS

/-! ### plain values on a heap -/
/-- what an exception's object is, for us -/
def excH (C : Kx → Addr) (a : Addr) (c : Kx) : HO := .ext fun h => ∃ (oe : Obj) (vs : Array Value), h.get? a = some oe ∧ Zc (.ref (C c)) none oe ∧ oe.data = .fields vs

mutual
inductive Rep (K : PySem.W.Frag) (C : Kx → Addr) (F : Hp) (ρ : List Addr) : V → PV → Prop
  | non : Rep K C F ρ .non .non
  | bl (b : Bool) : Rep K C F ρ (.bl b) (.bl b)
  | int (i : Int) : Rep K C F ρ (.int i) (.int i)
  | str (x : Str) : Rep K C F ρ (.str x) (.str x)
  | tup {a : Addr} {vs : List V} {xs : List PV} : SqT K F a vs → RepL K C F ρ vs xs → Rep K C F ρ (.ref a) (.tup xs)
  | lst {a : Addr} {vs : List V} {xs : List PV} : Rd F a (.lst vs) → RepL K C F ρ vs xs → Rep K C F ρ (.ref a) (.lst xs)
  | dI {a : Addr} {o : Obj} {kv : List (Key × V)} {kvs : List (Int × PV)} : F a = some (.frz o (.dK kv)) → RepI K C F ρ kv kvs → Rep K C F ρ (.ref a) (.dI kvs)
  | dT {a : Addr} {o : Obj} {kv : List (List Key × V)} {kvs : List (List Int × PV)} : F a = some (.frz o (.dT kv)) → RepT K C F ρ kv kvs → Rep K C F ρ (.ref a) (.dT kvs)
  | exc {a : Addr} {c : Kx} : F a = some (excH C a c) → Rep K C F ρ (.ref a) (.exc c)
  | ptr {a : Addr} {n : Nat} : ρ[n]? = some a → Rep K C F ρ (.ref a) (.ptr n)
  | kls {a : Addr} {ns : List Int} : SqL K F a (ns.map V.int) → Rep K C F ρ (.ref a) (.kls ns)
inductive RepL (K : PySem.W.Frag) (C : Kx → Addr) (F : Hp) (ρ : List Addr) : List V → List PV → Prop
  | nil : RepL K C F ρ [] []
  | cons {v : V} {vs : List V} {x : PV} {xs : List PV} : Rep K C F ρ v x → RepL K C F ρ vs xs → RepL K C F ρ (v :: vs) (x :: xs)
inductive RepI (K : PySem.W.Frag) (C : Kx → Addr) (F : Hp) (ρ : List Addr) : List (Key × V) → List (Int × PV) → Prop
  | nil : RepI K C F ρ [] []
  | cons {k : Int} {v : V} {r : List (Key × V)} {x : PV} {s : List (Int × PV)} : Rep K C F ρ v x → RepI K C F ρ r s → RepI K C F ρ ((Sum.inl k, v) :: r) ((k, x) :: s)
inductive RepT (K : PySem.W.Frag) (C : Kx → Addr) (F : Hp) (ρ : List Addr) : List (List Key × V) → List (List Int × PV) → Prop
  | nil : RepT K C F ρ [] []
  | cons {k : List Int} {v : V} {r : List (List Key × V)} {x : PV} {s : List (List Int × PV)} : Rep K C F ρ v x → RepT K C F ρ r s → RepT K C F ρ ((k.map Sum.inl, v) :: r) ((k, x) :: s)
end

section
variable {K : PySem.W.Frag} {C : Kx → Addr} {F F' : Hp} {ρ ρ' : List Addr}
def Le (F F' : Hp) : Prop := ∀ a o, F a = some o → F' a = some o
theorem Le.refl (F : Hp) : Le F F := fun _ _ h => h
theorem Le.trans {F F' F'' : Hp} (a : Le F F') (b : Le F' F'') : Le F F'' := fun x o h => b x o (a x o h)
theorem Le.gone {F F' : Hp} (e : Le F F') {a : Addr} (h : F' a = none) : F a = none := by
  cases q : F a with
  | none => rfl
  | some o => rw [e a o q] at h; cases h
theorem Le.put {F : Hp} {p : Addr} {o : HO} (h : F p = none) : Le F (upd F p o) := fun a u e => by
  rw [upd_ne (ne_of_none e h)]; exact e
theorem Rd.le {u : HO} {a : Addr} (h : Le F F') (r : Rd F a u) : Rd F' a u := by
  rcases r with r | ⟨o, r⟩
  · exact .inl (h _ _ r)
  · exact .inr ⟨o, h _ _ r⟩
theorem SqL.le {a : Addr} {xs : List V} (h : Le F F') (r : SqL K F a xs) : SqL K F' a xs := r.elim (fun r => .inl (Rd.le h r)) .inr
theorem SqT.le {a : Addr} {xs : List V} (h : Le F F') (r : SqT K F a xs) : SqT K F' a xs := r.elim (fun r => .inl (Rd.le h r)) .inr

mutual
theorem Rep.le (h : Le F F') (hr : ∀ (n : Nat) (a : Addr), ρ[n]? = some a → ρ'[n]? = some a) : ∀ {v : V} {x : PV}, Rep K C F ρ v x → Rep K C F' ρ' v x
  | _, _, .non => .non
  | _, _, .bl b => .bl b
  | _, _, .int i => .int i
  | _, _, .str x => .str x
  | _, _, .tup r s => .tup (SqT.le h r) (RepL.le h hr s)
  | _, _, .lst r s => .lst (Rd.le h r) (RepL.le h hr s)
  | _, _, .dI r s => .dI (h _ _ r) (RepI.le h hr s)
  | _, _, .dT r s => .dT (h _ _ r) (RepT.le h hr s)
  | _, _, .exc r => .exc (h _ _ r)
  | _, _, .ptr r => .ptr (hr _ _ r)
  | _, _, .kls r => .kls (SqL.le h r)
theorem RepL.le (h : Le F F') (hr : ∀ (n : Nat) (a : Addr), ρ[n]? = some a → ρ'[n]? = some a) : ∀ {v : List V} {x : List PV}, RepL K C F ρ v x → RepL K C F' ρ' v x
  | _, _, .nil => .nil
  | _, _, .cons r s => .cons (Rep.le h hr r) (RepL.le h hr s)
theorem RepI.le (h : Le F F') (hr : ∀ (n : Nat) (a : Addr), ρ[n]? = some a → ρ'[n]? = some a) : ∀ {v : List (Key × V)} {x : List (Int × PV)}, RepI K C F ρ v x → RepI K C F' ρ' v x
  | _, _, .nil => .nil
  | _, _, .cons r s => .cons (Rep.le h hr r) (RepI.le h hr s)
theorem RepT.le (h : Le F F') (hr : ∀ (n : Nat) (a : Addr), ρ[n]? = some a → ρ'[n]? = some a) : ∀ {v : List (List Key × V)} {x : List (List Int × PV)}, RepT K C F ρ v x → RepT K C F' ρ' v x
  | _, _, .nil => .nil
  | _, _, .cons r s => .cons (Rep.le h hr r) (RepT.le h hr s)
end
theorem RepL.length : ∀ {vs : List V} {xs : List PV}, RepL K C F ρ vs xs → vs.length = xs.length
  | _, _, .nil => rfl
  | _, _, .cons _ s => by simp [RepL.length s]
theorem RepL.append : ∀ {vs ws : List V} {xs ys : List PV}, RepL K C F ρ vs xs → RepL K C F ρ ws ys → RepL K C F ρ (vs ++ ws) (xs ++ ys)
  | _, _, _, _, .nil, s => s
  | _, _, _, _, .cons r t, s => .cons r (RepL.append t s)
theorem RepL.get : ∀ {vs : List V} {xs : List PV} {i : Nat} {x : PV}, RepL K C F ρ vs xs → xs[i]? = some x → ∃ v, vs[i]? = some v ∧ Rep K C F ρ v x
  | _, _, 0, _, .cons r _, e => by simp at e; subst e; exact ⟨_, rfl, r⟩
  | _, _, i + 1, _, .cons _ t, e => by
    obtain ⟨v, h1, h2⟩ := RepL.get (i := i) t (by simpa using e)
    exact ⟨v, by simpa using h1, h2⟩
  | _, _, _, _, .nil, e => by simp at e
theorem RepL.getV : ∀ {vs : List V} {xs : List PV} {i : Nat} {v : V}, RepL K C F ρ vs xs → vs[i]? = some v → ∃ x, xs[i]? = some x ∧ Rep K C F ρ v x
  | _, _, 0, _, .cons r _, e => by simp at e; subst e; exact ⟨_, rfl, r⟩
  | _, _, i + 1, _, .cons _ t, e => by
    obtain ⟨v, h1, h2⟩ := RepL.getV (i := i) t (by simpa using e)
    exact ⟨v, by simpa using h1, h2⟩
  | _, _, _, _, .nil, e => by simp at e
theorem RepL.set {v : V} {x : PV} (r : Rep K C F ρ v x) : ∀ {vs : List V} {xs : List PV} (i : Nat), RepL K C F ρ vs xs → RepL K C F ρ (vs.set i v) (xs.set i x)
  | _, _, _, .nil => .nil
  | _, _, 0, .cons _ t => .cons r t
  | _, _, i + 1, .cons q t => .cons q (RepL.set r i t)
theorem RepL.take : ∀ {vs : List V} {xs : List PV} (n : Nat), RepL K C F ρ vs xs → RepL K C F ρ (vs.take n) (xs.take n)
  | _, _, 0, _ => by simpa using RepL.nil
  | _, _, _ + 1, .nil => .nil
  | _, _, n + 1, .cons r t => .cons r (RepL.take n t)
theorem RepL.drop : ∀ {vs : List V} {xs : List PV} (n : Nat), RepL K C F ρ vs xs → RepL K C F ρ (vs.drop n) (xs.drop n)
  | _, _, 0, r => by simpa using r
  | _, _, _ + 1, .nil => .nil
  | _, _, n + 1, .cons _ t => RepL.drop n t
theorem RepL.eraseIdx : ∀ {vs : List V} {xs : List PV} (n : Nat), RepL K C F ρ vs xs → RepL K C F ρ (vs.eraseIdx n) (xs.eraseIdx n)
  | _, _, _, .nil => .nil
  | _, _, 0, .cons _ t => t
  | _, _, n + 1, .cons r t => .cons r (RepL.eraseIdx n t)
theorem RepL.reverse : ∀ {vs : List V} {xs : List PV}, RepL K C F ρ vs xs → RepL K C F ρ vs.reverse xs.reverse
  | _, _, .nil => .nil
  | _, _, .cons r t => by
    rw [List.reverse_cons, List.reverse_cons]
    exact (RepL.reverse t).append (.cons r .nil)
theorem RepL.ints : ∀ ns : List Int, RepL K C F ρ (ns.map V.int) (ns.map PV.int)
  | [] => .nil
  | n :: ns => .cons (.int n) (RepL.ints ns)
theorem RepL.ints_inv : ∀ {vs : List V} {ns : List Int}, RepL K C F ρ vs (ns.map PV.int) → vs = ns.map V.int
  | _, [], r => by cases r; rfl
  | _, n :: ns, r => by
    cases r with
    | cons a b => cases a; rw [RepL.ints_inv b]; rfl
theorem RepL.bls_inv : ∀ {vs : List V} {ns : List Bool}, RepL K C F ρ vs (ns.map PV.bl) → vs = ns.map V.bl
  | _, [], r => by cases r; rfl
  | _, n :: ns, r => by
    cases r with
    | cons a b => cases a; rw [RepL.bls_inv b]; rfl
end

/-! ### the state -/
/-- F: what never changes again; B: what is others' (or locked) and not touched here; ρ: where the store's cells stand; L: the slots that are locked -/
structure Wd where
  F : Hp
  B : Hp
  ρ : List Addr
  L : Nat → Option Addr
structure Wd.le (w w' : Wd) : Prop where
  f : Le w.F w'.F
  b : w'.B = w.B
  l : w'.L = w.L
  r : ∃ more, w'.ρ = w.ρ ++ more
theorem Wd.le.refl (w : Wd) : w.le w := ⟨Le.refl _, rfl, rfl, [], by simp⟩
theorem Wd.le.trans {w w' w'' : Wd} (a : w.le w') (b : w'.le w'') : w.le w'' := by
  obtain ⟨a1, a2, a4, m, a3⟩ := a
  obtain ⟨b1, b2, b4, n, b3⟩ := b
  exact ⟨a1.trans b1, b2.trans a2, b4.trans a4, m ++ n, by rw [b3, a3, List.append_assoc]⟩
theorem Wd.le.get {w w' : Wd} (a : w.le w') {n : Nat} {x : Addr} (h : w.ρ[n]? = some x) : w'.ρ[n]? = some x := by
  obtain ⟨m, e⟩ := a.r
  rw [e, List.getElem?_append_left (List.getElem?_eq_some_iff.mp h).1]
  exact h
/-- only F grew -/
theorem Wd.le.ff {w : Wd} {F' : Hp} (h : Le w.F F') : w.le { w with F := F' } := ⟨h, rfl, rfl, [], by simp⟩
/-- free for changes of our own -/
structure Fr1 (w : Wd) (a : Addr) : Prop where
  f : w.F a = none
  b : w.B a = none
  r : a ∉ w.ρ

section
variable (K : PySem.W.Frag) (C : Kx → Addr)
abbrev RepW (w : Wd) : V → PV → Prop := Rep K C w.F w.ρ
abbrev RepLW (w : Wd) : List V → List PV → Prop := RepL K C w.F w.ρ
/-- an object that may change -/
def ObjR (w : Wd) (H : Hp) (a : Addr) : PV → Prop
  | .lst xs => ∃ vs, H a = some (.lst vs) ∧ RepL K C w.F w.ρ vs xs
  | .dI kvs => ∃ kv, H a = some (.dK kv) ∧ RepI K C w.F w.ρ kv kvs
  | .dT kvs => ∃ kv, H a = some (.dT kv) ∧ RepT K C w.F w.ρ kv kvs
  | _ => False
/-- one that is locked for a while -/
def LkR (w : Wd) (H : Hp) (a : Addr) : PV → Prop
  | .lst xs => ∃ vs, H a = some (.lst vs) ∧ RepL K C w.F w.ρ vs xs
  | .dI kvs => ∃ o kv, H a = some (.frz o (.dK kv)) ∧ RepI K C w.F w.ρ kv kvs
  | .dT kvs => ∃ o kv, H a = some (.frz o (.dT kv)) ∧ RepT K C w.F w.ρ kv kvs
  | _ => False
def SlotR (w : Wd) (H : Hp) (i : Nat) (x : Option (Option V)) : SV → Prop
  | .un => True
  | .v y => ∃ u, x = some (some u) ∧ Rep K C w.F w.ρ u y
  | .own y => ∃ a, x = some (some (.ref a)) ∧ Fr1 w a ∧ ObjR K C w H a y
  | .lk y => ∃ a, w.L i = some a ∧ x = some (some (.ref a)) ∧ LkR K C w w.B a y
def SV.mine : SV → Bool
  | .own _ => true
  | _ => false
structure Sim (w : Wd) (env : En) (S : Sto) (σ : St) (H : Hp) : Prop where
  f : Le w.F H
  b : Le w.B H
  fb : ∀ a o, w.B a = some o → w.F a = none ∨ ∃ xs, o = .tup xs
  lb : ∀ i a, w.L i = some a → w.B a ≠ none
  le : env.length ≤ σ.length
  sl : ∀ (i : Nat) (x : SV), env[i]? = some x → SlotR K C w H i σ[i]? x
  od : ∀ (i j : Nat) (x y : SV) (a : Addr), env[i]? = some x → env[j]? = some y → x.mine = true → y.mine = true → σ[i]? = some (some (.ref a)) → σ[j]? = some (some (.ref a)) → i = j
  ln : w.ρ.length = S.length
  nd : w.ρ.Nodup
  cl : ∀ (n : Nat) (c : PV) (a : Addr), S[n]? = some c → w.ρ[n]? = some a → w.F a = none ∧ w.B a = none ∧ ObjR K C w H a c
end

section
variable {K : PySem.W.Frag} {C : Kx → Addr} {w w' : Wd} {env : En} {S S' : Sto} {σ : St} {H H' : Hp}
theorem RepW.up (h : w.le w') {v : V} {x : PV} (r : RepW K C w v x) : RepW K C w' v x := Rep.le h.f (fun _ _ e => h.get e) r
theorem RepLW.up (h : w.le w') {v : List V} {x : List PV} (r : RepLW K C w v x) : RepLW K C w' v x := RepL.le h.f (fun _ _ e => h.get e) r
theorem ObjR.up (h : w.le w') {a : Addr} (hh : ∀ o, H a = some o → H' a = some o) {x : PV} (r : ObjR K C w H a x) : ObjR K C w' H' a x := by
  cases x with
  | lst xs => obtain ⟨vs, e, r⟩ := r; exact ⟨vs, hh _ e, RepL.le h.f (fun _ _ e => h.get e) r⟩
  | dI xs => obtain ⟨vs, e, r⟩ := r; exact ⟨vs, hh _ e, RepI.le h.f (fun _ _ e => h.get e) r⟩
  | dT xs => obtain ⟨vs, e, r⟩ := r; exact ⟨vs, hh _ e, RepT.le h.f (fun _ _ e => h.get e) r⟩
  | _ => exact r.elim
theorem LkR.up (h : w.le w') {a : Addr} (hh : ∀ o, H a = some o → H' a = some o) {x : PV} (r : LkR K C w H a x) : LkR K C w' H' a x := by
  cases x with
  | lst xs => obtain ⟨vs, e, r⟩ := r; exact ⟨vs, hh _ e, RepL.le h.f (fun _ _ e => h.get e) r⟩
  | dI xs => obtain ⟨o, vs, e, r⟩ := r; exact ⟨o, vs, hh _ e, RepI.le h.f (fun _ _ e => h.get e) r⟩
  | dT xs => obtain ⟨o, vs, e, r⟩ := r; exact ⟨o, vs, hh _ e, RepT.le h.f (fun _ _ e => h.get e) r⟩
  | _ => exact r.elim
theorem ObjR.there {a : Addr} {x : PV} (r : ObjR K C w H a x) : ∃ o, H a = some o := by
  cases x with
  | lst xs => obtain ⟨vs, e, _⟩ := r; exact ⟨_, e⟩
  | dI xs => obtain ⟨vs, e, _⟩ := r; exact ⟨_, e⟩
  | dT xs => obtain ⟨vs, e, _⟩ := r; exact ⟨_, e⟩
  | _ => exact r.elim
theorem LkR.there {a : Addr} {x : PV} (r : LkR K C w H a x) : ∃ o, H a = some o := by
  cases x with
  | lst xs => obtain ⟨vs, e, _⟩ := r; exact ⟨_, e⟩
  | dI xs => obtain ⟨_, vs, e, _⟩ := r; exact ⟨_, e⟩
  | dT xs => obtain ⟨_, vs, e, _⟩ := r; exact ⟨_, e⟩
  | _ => exact r.elim
/-- new frozen things: F' and H' are larger, what is new in F' is new in H' -/
structure Grow (F H F' H' : Hp) : Prop where
  ff : Le F F'
  hh : Le H H'
  fh : Le F' H'
  nw : ∀ a, F a = none → H a ≠ none → F' a = none ∨ ∃ xs, F' a = some (.tup xs)
theorem Grow.refl {F H : Hp} (h : Le F H) : Grow F H F H := ⟨Le.refl _, Le.refl _, h, fun _ e _ => .inl e⟩
/-- one new frozen object -/
theorem Grow.one {F H : Hp} {p : Addr} {o : HO} (h : Le F H) (hp : H p = none) : Grow F H (upd F p o) (upd H p o) := by
  have hf : F p = none := h.gone hp
  refine ⟨Le.put hf, Le.put hp, fun a u e => ?_, fun a e n => ?_⟩
  · by_cases q : a = p
    · subst q; rw [upd_same] at e ⊢; exact e
    · rw [upd_ne q] at e ⊢; exact h _ _ e
  · by_cases q : a = p
    · subst q; exact absurd hp n
    · rw [upd_ne q]; exact .inl e
/-- H alone grew by one object -/
theorem Grow.loose {F H : Hp} {p : Addr} {o : HO} (h : Le F H) (hp : H p = none) : Grow F H F (upd H p o) :=
  ⟨Le.refl _, Le.put hp, h.trans (Le.put hp), fun _ e _ => .inl e⟩
theorem ObjR.nottup {a : Addr} {x : PV} (r : ObjR K C w H a x) (ys : List V) : H a ≠ some (.tup ys) := by
  intro e
  cases x with
  | lst xs => obtain ⟨vs, e', _⟩ := r; rw [e] at e'; cases e'
  | dI xs => obtain ⟨vs, e', _⟩ := r; rw [e] at e'; cases e'
  | dT xs => obtain ⟨vs, e', _⟩ := r; rw [e] at e'; cases e'
  | _ => exact r.elim
theorem Grow.own {F H F' H' : Hp} (g : Grow F H F' H') {a : Addr} {x : PV} (r : ObjR K C w H a x) (f : F a = none) : F' a = none := by
  obtain ⟨o, ho⟩ := r.there
  rcases g.nw a f (by rw [ho]; simp) with h | ⟨ys, h⟩
  · exact h
  · have e1 := g.fh _ _ h
    have e2 := g.hh _ _ ho
    rw [e1] at e2; cases e2
    exact absurd ho (r.nottup ys)
theorem Sim.grow (s : Sim K C w env S σ H) {F' H' : Hp} (g : Grow w.F H F' H') : Sim K C { w with F := F' } env S σ H' ∧ w.le { w with F := F' } := by
  have le : w.le { w with F := F' } := Wd.le.ff g.ff
  refine ⟨⟨g.fh, s.b.trans g.hh, fun a o e => ?_, s.lb, s.le, fun i x e => ?_, s.od, s.ln, s.nd, fun n c a e1 e2 => ?_⟩, le⟩
  · rcases s.fb a o e with h | h
    · rcases g.nw a h (by rw [s.b a o e]; simp) with h | ⟨ys, h⟩
      · exact .inl h
      · have e1 := g.fh _ _ h
        have e2 := g.hh _ _ (s.b a o e)
        rw [e1] at e2; cases e2
        exact .inr ⟨ys, rfl⟩
    · exact .inr h
  · have q := s.sl i x e
    cases x with
    | un => trivial
    | v y => obtain ⟨u, h1, h2⟩ := q; exact ⟨u, h1, RepW.up le h2⟩
    | own y =>
      obtain ⟨a, h1, ⟨f1, f2, f3⟩, h2⟩ := q
      exact ⟨a, h1, ⟨g.own h2 f1, f2, f3⟩, h2.up le fun _ => g.hh _ _⟩
    | lk y =>
      obtain ⟨a, h0, h1, h2⟩ := q
      exact ⟨a, h0, h1, h2.up le fun _ e => e⟩
  · obtain ⟨f1, f2, h2⟩ := s.cl n c a e1 e2
    exact ⟨g.own h2 f1, f2, h2.up le fun _ => g.hh _ _⟩
end
end Hw

set_option maxRecDepth 100000
set_option maxHeartbeats 4000000
namespace Hw
open PySem PySem.Spec L2

def R.bind {α β : Type} : R α → (α → Sto → R β) → R β
  | .ok a S, f => f a S
  | .ex c S, _ => .ex c S
  | .bad, _ => .bad
def R.opt {α : Type} : Option α → Sto → R α
  | some a, S => .ok a S
  | none, _ => .bad

section
variable (K : PySem.W.Frag) (C : Kx → Addr) (E : WX)
/-- what is to hold behind an evaluation that ends so -/
def Wp {α : Type} (w : Wd) (env : En) (σ : L2.St) (r : R α) (P : α → Sto → Wd → Hp → Prop) : Prop :=
  match r with
  | .ok v S' => ∀ w' H', w.le w' → Sim K C w' env S' σ H' → P v S' w' H'
  | .ex c S' => ∀ w' H', w.le w' → Sim K C w' env S' σ H' → E (.ref (C c)) none σ H'
  | .bad => False
/-- p stands in none of our own slots -/
def NotMine (env : En) (σ : L2.St) (p : Addr) : Prop := ∀ (i : Nat) (x : SV), env[i]? = some x → x.mine = true → σ[i]? ≠ some (some (.ref p))
/-- a plain evaluation as a reading -/
def rE (d : Ex) : TE := fun σ H Q => ∃ w env S, Sim K C w env S σ H ∧ Wp K C E w env σ (d env S) fun v _ w' H' => ∀ x, Rep K C w'.F w'.ρ x v → Q x H'
def rA (d : Exs) : TA := fun σ H Q => ∃ w env S, Sim K C w env S σ H ∧ Wp K C E w env σ (d env S) fun vs _ w' H' => ∀ xs, RepL K C w'.F w'.ρ xs vs → Q xs H'
/-- .. a test -/
def rT (d : Ex) : TT := fun σ H Q => ∃ w env S, Sim K C w env S σ H ∧ Wp K C E w env σ (d env S) fun v _ w' H' => ∃ b, v = .bl b ∧ Q b H'
/-- .. that makes a new object -/
def rN (d : Ex) : TE := fun σ H Q => ∃ w env S, Sim K C w env S σ H ∧ Wp K C E w env σ (d env S) fun v _ w' H' => ∀ p, Fr1 w' p → NotMine env σ p → ObjR K C w' H' p v → Q (.ref p) H'
end

section
variable {K : PySem.W.Frag} {C : Kx → Addr} {E : WX} {w w' : Wd} {env : En} {S S' : Sto} {σ : L2.St} {H H' : Hp} {α β : Type}
theorem Wp.mono {r : R α} {P P' : α → Sto → Wd → Hp → Prop} (h : Wp K C E w env σ r P) (hp : ∀ v S' w' H', w.le w' → Sim K C w' env S' σ H' → P v S' w' H' → P' v S' w' H') : Wp K C E w env σ r P' := by
  cases r with
  | ok v S' => exact fun w' H' le s => hp v S' w' H' le s (h w' H' le s)
  | ex c S' => exact h
  | bad => exact h
theorem Wp.up {r : R α} {P : α → Sto → Wd → Hp → Prop} (h : Wp K C E w env σ r P) (le : w.le w') : Wp K C E w' env σ r P := by
  cases r with
  | ok v S' => exact fun w'' H' le' s => h w'' H' (le.trans le') s
  | ex c S' => exact fun w'' H' le' s => h w'' H' (le.trans le') s
  | bad => exact h
theorem Wp.bind {r : R α} {f : α → Sto → R β} {P : β → Sto → Wd → Hp → Prop} (h : Wp K C E w env σ (r.bind f) P) : Wp K C E w env σ r fun v S1 w1 H1 => Wp K C E w1 env σ (f v S1) P := by
  cases r with
  | ok v S' => exact fun w' H' le _ => Wp.up (show Wp K C E w env σ (f v S') P from h) le
  | ex c S' => exact h
  | bad => exact h
end
theorem _root_.L2.PE.imp {X : Cx} {e : Expr} {t t' : TE} (h : PE X e t) (hi : ∀ σ H Q, t' σ H Q → t σ H Q) : PE X e t' := ⟨fun pins s σ H Q I q => h.run pins s σ H Q I (hi _ _ _ q)⟩
theorem _root_.L2.PT.imp {X : Cx} {e : Expr} {t t' : TT} (h : PT X e t) (hi : ∀ σ H Q, t' σ H Q → t σ H Q) : PT X e t' := ⟨fun pins s σ H Q I q => h.run pins s σ H Q I (hi _ _ _ q)⟩
theorem _root_.L2.PW.imp {X : Cx} {e : Expr} {t t' : TT} (h : PW X e t) (hi : ∀ σ H Q, t' σ H Q → t σ H Q) : PW X e t' := ⟨fun wh pins s σ H Q I q => h.run wh pins s σ H Q I (hi _ _ _ q)⟩
theorem _root_.L2.PA.imp {X : Cx} {e : List Expr} {t t' : TA} (h : PA X e t) (hi : ∀ σ H Q, t' σ H Q → t σ H Q) : PA X e t' := ⟨fun p pins s σ H Q I q => h.run p pins s σ H Q I (hi _ _ _ q)⟩
theorem _root_.L2.PK.imp {X : Cx} {e : List Keyword} {t t' : TA} (h : PK X e t) (hi : ∀ σ H Q, t' σ H Q → t σ H Q) : PK X e t' := ⟨fun p pins s σ H Q I q => h.run p pins s σ H Q I (hi _ _ _ q)⟩
theorem _root_.L2.PS.imp {X : Cx} {e : Stmt} {t t' : TS} (h : PS X e t) (hi : ∀ D σ H, t' D σ H → t D σ H) : PS X e t' := ⟨fun pins s σ H D I q => h.run pins s σ H D I (hi _ _ _ q)⟩
theorem _root_.L2.PSs.imp {X : Cx} {e : List Stmt} {t t' : TS} (h : PSs X e t) (hi : ∀ D σ H, t' D σ H → t D σ H) : PSs X e t' := ⟨fun pins s σ H D I q => h.run pins s σ H D I (hi _ _ _ q)⟩

/-! ### expressions -/
def eVar (i : Nat) : Ex := fun env S => match env[i]? with | some (.v x) => .ok x S | _ => .bad
def eC (v : PV) : Ex := fun _ S => .ok v S
def eOp1 (f : PV → Option PV) (a : Ex) : Ex := fun env S => (a env S).bind fun u S => .opt (f u) S
def eOp2 (f : PV → PV → Option PV) (a b : Ex) : Ex := fun env S => (a env S).bind fun u S => (b env S).bind fun v S => .opt (f u v) S
def eChain (f g : PV → PV → Option PV) (a b c : Ex) : Ex := fun env S => (a env S).bind fun u S => (b env S).bind fun v S => (R.opt (f u v) S).bind fun z S =>
  match z with | .bl true => (c env S).bind fun t S => .opt (g v t) S | .bl false => .ok (.bl false) S | _ => .bad
def eAnd (a b : Ex) : Ex := fun env S => (a env S).bind fun u S => match u with | .bl true => b env S | .bl false => .ok (.bl false) S | _ => .bad
def eOr (a b : Ex) : Ex := fun env S => (a env S).bind fun u S => match u with | .bl true => .ok (.bl true) S | .bl false => b env S | _ => .bad
def eNot (a : Ex) : Ex := fun env S => (a env S).bind fun u S => match u with | .bl b => .ok (.bl (!b)) S | _ => .bad
def eIf (c a b : Ex) : Ex := fun env S => (c env S).bind fun u S => match u with | .bl true => a env S | .bl false => b env S | _ => .bad
def esNil : Exs := fun _ S => .ok [] S
def esCons (a : Ex) (r : Exs) : Exs := fun env S => (a env S).bind fun u S => (r env S).bind fun us S => .ok (u :: us) S
def eTup (a : Exs) : Ex := fun env S => (a env S).bind fun us S => if us.length ≤ 1000 then .ok (.tup us) S else .bad
def eLst (a : Exs) : Ex := fun env S => (a env S).bind fun us S => if us.length ≤ 1000 then .ok (.lst us) S else .bad
def eOpN (f : List PV → Option PV) (a : Exs) : Ex := fun env S => (a env S).bind fun us S => .opt (f us) S

section
variable {X : Cx} {C : Kx → Addr} {E : WX} {a b c : Expr} {da db dc : Ex} {pos : Pos}

theorem h_var (i : Nat) {x : Str} {pos : Pos} (hN : X.N[i]? = some x := by rfl) (hv : Vis X.env.scope x := by first | exact Or.inl rfl | exact Or.inr (Or.inl rfl) | exact Or.inr (Or.inr rfl)) (hd : (x == ("__debug__" : Str)) = false := by decide)
    (hcd : (x == ("__classdict__" : Str)) = false := by decide) : PE X (.Name x pos) (rE X.K C E (eVar i)) := by
  refine (pe_var (X := X) (i := i) hN hv hd hcd).imp ?_
  rintro σ H Q ⟨w, env, S, s, h⟩
  unfold eVar at h
  split at h
  · rename_i y e
    obtain ⟨u, e1, r⟩ := s.sl i _ e
    exact ⟨u, e1, h w H (Wd.le.refl w) s u r⟩
  · exact h.elim

/-- a constant -/
theorem h_c {e : Expr} {v : V} {x : PV} (h : PE X e (tC v)) (r : ∀ K F ρ, Rep K C F ρ v x) : PE X e (rE X.K C E (eC x)) := by
  refine h.imp ?_
  rintro σ H Q ⟨w, env, S, s, h⟩
  exact h w H (Wd.le.refl w) s v (r _ _ _)
theorem h_int {i : Int} {j : Nat} : PE X (.Constant (.int i) j pos) (rE X.K C E (eC (.int i))) := h_c pe_int fun _ _ _ => .int i
theorem h_bl {i : Bool} {j : Nat} : PE X (.Constant (.bool i) j pos) (rE X.K C E (eC (.bl i))) := h_c pe_bl fun _ _ _ => .bl i
theorem h_non {j : Nat} : PE X (.Constant .none j pos) (rE X.K C E (eC .non)) := h_c pe_non fun _ _ _ => .non
theorem h_str {x : Str} {j : Nat} : PE X (.Constant (.str x) j pos) (rE X.K C E (eC (.str x))) := h_c pe_str fun _ _ _ => .str x

/-- a value, or an object that may still change but does not now -/
def Ob (K : PySem.W.Frag) (C : Kx → Addr) (F : Hp) (ρ : List Addr) (H : Hp) (a : Addr) : PV → Prop
  | .lst xs => ∃ vs, Rd H a (.lst vs) ∧ RepL K C F ρ vs xs
  | .dI kvs => ∃ kv, Rd H a (.dK kv) ∧ RepI K C F ρ kv kvs
  | .dT kvs => ∃ kv, Rd H a (.dT kv) ∧ RepT K C F ρ kv kvs
  | _ => False
def Seen (K : PySem.W.Frag) (C : Kx → Addr) (F : Hp) (ρ : List Addr) (H : Hp) (x : V) (u : PV) : Prop := Rep K C F ρ x u ∨ ∃ a, x = .ref a ∧ Ob K C F ρ H a u
/-- an operator by values keeps to f -/
def Op2 (K : PySem.W.Frag) (f : PV → PV → Option PV) (r : R2) : Prop := ∀ (C : Kx → Addr) (F H : Hp) (ρ : List Addr) (x y : V) (u v z : PV) (Q : VK), Le F H → Seen K C F ρ H x u → Seen K C F ρ H y v → f u v = some z →
  (∀ F' H' q, Grow F H F' H' → Rep K C F' ρ q z → Q q H') → r x y H Q
def Op1 (K : PySem.W.Frag) (f : PV → Option PV) (r : V → Hp → VK → Prop) : Prop := ∀ (C : Kx → Addr) (F H : Hp) (ρ : List Addr) (x : V) (u z : PV) (Q : VK), Le F H → Seen K C F ρ H x u → f u = some z →
  (∀ F' H' q, Grow F H F' H' → Rep K C F' ρ q z → Q q H') → r x H Q
def OpN (K : PySem.W.Frag) (f : List PV → Option PV) (r : List V → Hp → VK → Prop) : Prop := ∀ (C : Kx → Addr) (F H : Hp) (ρ : List Addr) (xs : List V) (us : List PV) (z : PV) (Q : VK), Le F H → RepL K C F ρ xs us → f us = some z →
  (∀ F' H' q, Grow F H F' H' → Rep K C F' ρ q z → Q q H') → r xs H Q

theorem run2 {K : PySem.W.Frag} {f : PV → PV → Option PV} {r : R2} (hf : Op2 K f r) {w : Wd} {env : En} {S : Sto} {σ : L2.St} {H : Hp} {x y : V} {u v : PV} {Q : VK} {P : PV → Sto → Wd → Hp → Prop} (s : Sim K C w env S σ H) (rx : Seen K C w.F w.ρ H x u) (ry : Seen K C w.F w.ρ H y v)
    (h : Wp K C E w env σ (R.opt (f u v) S) P) (hP : ∀ q z w' H', w.le w' → Sim K C w' env S σ H' → P z S w' H' → Rep K C w'.F w'.ρ q z → Q q H') : r x y H Q := by
  cases e : f u v with
  | none => rw [e] at h; exact h.elim
  | some z =>
    rw [e] at h
    refine hf C w.F H w.ρ x y u v z Q s.f rx ry e fun F' H' q g rq => ?_
    obtain ⟨s', le⟩ := s.grow g
    exact hP q z _ H' le s' (h _ H' le s') rq
theorem run1 {K : PySem.W.Frag} {f : PV → Option PV} {r : V → Hp → VK → Prop} (hf : Op1 K f r) {w : Wd} {env : En} {S : Sto} {σ : L2.St} {H : Hp} {x : V} {u : PV} {Q : VK} {P : PV → Sto → Wd → Hp → Prop} (s : Sim K C w env S σ H) (rx : Seen K C w.F w.ρ H x u)
    (h : Wp K C E w env σ (R.opt (f u) S) P) (hP : ∀ q z w' H', w.le w' → Sim K C w' env S σ H' → P z S w' H' → Rep K C w'.F w'.ρ q z → Q q H') : r x H Q := by
  cases e : f u with
  | none => rw [e] at h; exact h.elim
  | some z =>
    rw [e] at h
    refine hf C w.F H w.ρ x u z Q s.f rx e fun F' H' q g rq => ?_
    obtain ⟨s', le⟩ := s.grow g
    exact hP q z _ H' le s' (h _ H' le s') rq
theorem runN {K : PySem.W.Frag} {f : List PV → Option PV} {r : List V → Hp → VK → Prop} (hf : OpN K f r) {w : Wd} {env : En} {S : Sto} {σ : L2.St} {H : Hp} {x : List V} {u : List PV} {Q : VK} {P : PV → Sto → Wd → Hp → Prop} (s : Sim K C w env S σ H) (rx : RepL K C w.F w.ρ x u)
    (h : Wp K C E w env σ (R.opt (f u) S) P) (hP : ∀ q z w' H', w.le w' → Sim K C w' env S σ H' → P z S w' H' → Rep K C w'.F w'.ρ q z → Q q H') : r x H Q := by
  cases e : f u with
  | none => rw [e] at h; exact h.elim
  | some z =>
    rw [e] at h
    refine hf C w.F H w.ρ x u z Q s.f rx e fun F' H' q g rq => ?_
    obtain ⟨s', le⟩ := s.grow g
    exact hP q z _ H' le s' (h _ H' le s') rq

/-- two evaluations in a row -/
theorem seq2 {ta tb : TE} {K : PySem.W.Frag} {σ : L2.St} {H : Hp} {Q : V → V → Hp → Prop} {f : PV → PV → Sto → R PV} {P : PV → Sto → Wd → Hp → Prop} {w : Wd} {env : En} {S : Sto}
    (s : Sim K C w env S σ H) (h : Wp K C E w env σ ((da env S).bind fun u S => (db env S).bind fun v S => f u v S) P)
    (hq : ∀ x y u v S2 w2 H2, w.le w2 → Sim K C w2 env S2 σ H2 → Rep K C w2.F w2.ρ x u → Rep K C w2.F w2.ρ y v → Wp K C E w2 env σ (f u v S2) P → Q x y H2) : rE K C E da σ H fun x H1 => rE K C E db σ H1 fun y H2 => Q x y H2 := by
  refine ⟨w, env, S, s, h.bind.mono fun u S1 w1 H1 le1 s1 h1 x rx => ⟨w1, env, S1, s1, h1.bind.mono fun v S2 w2 H2 le2 s2 h2 y ry => ?_⟩⟩
  exact hq x y u v S2 w2 H2 (le1.trans le2) s2 (RepW.up le2 rx) ry h2

theorem h_op2 {op : Operator} {r : R2} {f : PV → PV → Option PV} (ho : OpR X (binaryOp op) r) (hf : Op2 X.K f r) (ha : PE X a (rE X.K C E da)) (hb : PE X b (rE X.K C E db)) : PE X (.BinOp a op b pos) (rE X.K C E (eOp2 f da db)) := by
  refine (pe_op ho ha hb).imp ?_
  rintro σ H Q ⟨w, env, S, s, h⟩
  exact seq2 (ta := tC .non) (tb := tC .non) s h fun x y u v S2 w2 H2 le s2 rx ry h2 => run2 hf s2 (.inl rx) (.inl ry) h2 fun q z w' H' le s' p rq => p q rq
theorem h_op1 {op : UnaryOp} {r : V → Hp → VK → Prop} {f : PV → Option PV} (ho : UnR X (unaryOp op) r) (hf : Op1 X.K f r) (ha : PE X a (rE X.K C E da)) : PE X (.UnaryOp op a pos) (rE X.K C E (eOp1 f da)) := by
  refine (pe_un ho ha).imp ?_
  rintro σ H Q ⟨w, env, S, s, h⟩
  exact ⟨w, env, S, s, h.bind.mono fun u S1 w1 H1 le1 s1 h1 x rx => run1 hf s1 (.inl rx) h1 fun q z w' H' le s' p rq => p q rq⟩
theorem h_cmp {op : CmpOp} {r : R2} {f : PV → PV → Option PV} (ho : OpR X (compareOp op) r) (hf : Op2 X.K f r) (hm : behindInMarks op b = false) (ha : PE X a (rE X.K C E da)) (hb : PE X b (rE X.K C E db)) : PE X (.Compare a [op] [b] pos) (rE X.K C E (eOp2 f da db)) := by
  refine (pe_cmpR ho ha hb hm).imp ?_
  rintro σ H Q ⟨w, env, S, s, h⟩
  exact seq2 (ta := tC .non) (tb := tC .non) s h fun x y u v S2 w2 H2 le s2 rx ry h2 => run2 hf s2 (.inl rx) (.inl ry) h2 fun q z w' H' le s' p rq => p q rq
theorem rep_bl {K : PySem.W.Frag} {F : Hp} {ρ : List Addr} {q : V} {b : Bool} (r : Rep K C F ρ q (.bl b)) : q = .bl b := by cases r; rfl
theorem ht_cmp {op : CmpOp} {r : R2} {f : PV → PV → Option PV} (ho : OpR X (compareOp op) r) (hf : Op2 X.K f r) (hm : behindInMarks op b = false) (ha : PE X a (rE X.K C E da)) (hb : PE X b (rE X.K C E db)) : PT X (.Compare a [op] [b] pos) (rT X.K C E (eOp2 f da db)) := by
  refine (pt_cmpR ho ha hb hm).imp ?_
  rintro σ H Q ⟨w, env, S, s, h⟩
  refine seq2 (ta := tC .non) (tb := tC .non) s h fun x y u v S2 w2 H2 le s2 rx ry h2 => run2 hf s2 (.inl rx) (.inl ry) h2 fun q z w' H' le s' p rq => ?_
  obtain ⟨bb, e, p⟩ := p
  subst e
  exact ⟨bb, rep_bl rq, p⟩
end
end Hw

set_option maxRecDepth 100000
set_option maxHeartbeats 4000000
namespace Hw
open PySem PySem.Spec L2
section
variable {X : Cx} {C : Kx → Addr} {E : WX} {a b c : Expr} {da db dc : Ex} {pos : Pos} {es : List Expr} {ds : Exs}

theorem chain_rd {K : PySem.W.Frag} {r r' : R2} {f g : PV → PV → Option PV} (hf : Op2 K f r) (hg : Op2 K g r') {w : Wd} {env : En} {S : Sto} {σ : L2.St} {H : Hp} {Q : VK} {P : PV → Sto → Wd → Hp → Prop}
    (s : Sim K C w env S σ H) (h : Wp K C E w env σ (eChain f g da db dc env S) P) (hP : ∀ q z S' w' H', Sim K C w' env S' σ H' → P z S' w' H' → Rep K C w'.F w'.ρ q z → Q q H') :
    tChain r r' (rE K C E da) (rE K C E db) (rE K C E dc) σ H Q := by
  unfold eChain at h
  refine seq2 (ta := tC .non) (tb := tC .non) s h fun x y u v S2 w2 H2 le s2 rx ry h2 => ?_
  cases e : f u v with
  | none => rw [e] at h2; exact h2.elim
  | some z =>
    rw [e] at h2
    refine hf C w2.F H2 w2.ρ x y u v z _ s2.f (.inl rx) (.inl ry) e fun F' H3 q gr rq => ?_
    obtain ⟨s3, le3⟩ := s2.grow gr
    have h3 := h2.up le3
    cases z with
    | bl k =>
      cases rep_bl rq
      refine ⟨k, rfl, ?_⟩
      cases k with
      | true =>
        rw [if_pos rfl]
        refine ⟨_, env, S2, s3, Wp.mono (Wp.bind h3) fun t S4 w4 H4 le4 s4 h4 q4 r4 => ?_⟩
        exact run2 hg s4 (.inl (RepW.up (le3.trans le4) ry)) (.inl r4) h4 fun q z w' H' le' s' p rq' => hP q z _ w' H' s' p rq'
      | false =>
        rw [if_neg Bool.false_ne_true]
        exact hP _ _ _ _ _ s3 (h3 _ _ (Wd.le.refl _) s3) (.bl false)
    | _ => exact h3.elim
theorem h_chain {op op' : CmpOp} {r r' : R2} {f g : PV → PV → Option PV} (ho : OpR X (compareOp op) r) (ho' : OpR X (compareOp op') r') (hf : Op2 X.K f r) (hg : Op2 X.K g r') (ha : PE X a (rE X.K C E da)) (hb : PE X b (rE X.K C E db)) (hc : PE X c (rE X.K C E dc))
    (hm : lastMarks [op, op'] [b, c] = false := by with_unfolding_all rfl) : PE X (.Compare a [op, op'] [b, c] pos) (rE X.K C E (eChain f g da db dc)) := by
  refine (pe_chain ho ho' ha hb hc hm).imp ?_
  rintro σ H Q ⟨w, env, S, s, h⟩
  exact chain_rd hf hg s h fun q z S' w' H' s' p rq => p q rq
theorem ht_chain {op op' : CmpOp} {r r' : R2} {f g : PV → PV → Option PV} (ho : OpR X (compareOp op) r) (ho' : OpR X (compareOp op') r') (hf : Op2 X.K f r) (hg : Op2 X.K g r') (ha : PE X a (rE X.K C E da)) (hb : PE X b (rE X.K C E db)) (hc : PE X c (rE X.K C E dc))
    (hm : lastMarks [op, op'] [b, c] = false := by with_unfolding_all rfl) : PT X (.Compare a [op, op'] [b, c] pos) (rT X.K C E (eChain f g da db dc)) := by
  refine (pt_chain ho ho' ha hb hc hm).imp ?_
  rintro σ H Q ⟨w, env, S, s, h⟩
  refine chain_rd hf hg s h fun q z S' w' H' s' p rq => ?_
  obtain ⟨bb, e, p⟩ := p
  subst e
  exact ⟨bb, rep_bl rq, p⟩

/-! ### and, or, not, a if c else b -/
theorem h_one {op : BoolOp} (h : PE X a (rE X.K C E da)) : PE X (.BoolOp op [a] pos) (rE X.K C E da) := pe_one h
theorem h_and {rest : List Expr} (ha : PE X a (rE X.K C E da)) (hb : PE X (.BoolOp .And (b :: rest) pos) (rE X.K C E db)) : PE X (.BoolOp .And (a :: b :: rest) pos) (rE X.K C E (eAnd da db)) := by
  refine (pe_and ha hb).imp ?_
  rintro σ H Q ⟨w, env, S, s, h⟩
  unfold eAnd at h
  refine ⟨w, env, S, s, h.bind.mono fun u S1 w1 H1 le1 s1 h1 x rx => ?_⟩
  cases u with
  | bl k =>
    cases rep_bl rx
    refine ⟨k, rfl, ?_⟩
    cases k with
    | true => rw [if_pos rfl]; exact ⟨w1, env, S1, s1, h1⟩
    | false => rw [if_neg Bool.false_ne_true]; exact h1 w1 H1 (Wd.le.refl _) s1 _ (.bl false)
  | _ => exact h1.elim
theorem h_or {rest : List Expr} (ha : PE X a (rE X.K C E da)) (hb : PE X (.BoolOp .Or (b :: rest) pos) (rE X.K C E db)) : PE X (.BoolOp .Or (a :: b :: rest) pos) (rE X.K C E (eOr da db)) := by
  refine (pe_or ha hb).imp ?_
  rintro σ H Q ⟨w, env, S, s, h⟩
  unfold eOr at h
  refine ⟨w, env, S, s, h.bind.mono fun u S1 w1 H1 le1 s1 h1 x rx => ?_⟩
  cases u with
  | bl k =>
    cases rep_bl rx
    refine ⟨k, rfl, ?_⟩
    cases k with
    | true => rw [if_pos rfl]; exact h1 w1 H1 (Wd.le.refl _) s1 _ (.bl true)
    | false => rw [if_neg Bool.false_ne_true]; exact ⟨w1, env, S1, s1, h1⟩
  | _ => exact h1.elim
theorem h_not (ha : PE X a (rE X.K C E da)) : PE X (.UnaryOp .Not a pos) (rE X.K C E (eNot da)) := by
  refine (pe_not ha).imp ?_
  rintro σ H Q ⟨w, env, S, s, h⟩
  unfold eNot at h
  refine ⟨w, env, S, s, h.bind.mono fun u S1 w1 H1 le1 s1 h1 x rx => ?_⟩
  cases u with
  | bl k =>
    cases rep_bl rx
    exact ⟨k, rfl, h1 w1 H1 (Wd.le.refl _) s1 _ (.bl _)⟩
  | _ => exact h1.elim
/-- any expression as a test -/
theorem ht_val {e : Expr} {d : Ex} (h : PE X e (rE X.K C E d)) (he : ∀ whole, isTrue e X.env whole = (do let v ← whole; standAt e.pos; holding [v] (truthy v)) := by intro _; rfl) : PT X e (rT X.K C E d) := by
  refine (pt_val h he).imp ?_
  rintro σ H Q ⟨w, env, S, s, h⟩
  refine ⟨w, env, S, s, h.mono fun u S1 w1 H1 le1 s1 h1 x rx => ?_⟩
  obtain ⟨k, e, q⟩ := h1
  subst e
  exact ⟨k, rep_bl rx, q⟩
theorem ht_not (ha : PT X a (rT X.K C E da)) : PT X (.UnaryOp .Not a pos) (rT X.K C E (eNot da)) := by
  refine (pt_not ha).imp ?_
  rintro σ H Q ⟨w, env, S, s, h⟩
  unfold eNot at h
  refine ⟨w, env, S, s, h.bind.mono fun u S1 w1 H1 le1 s1 h1 => ?_⟩
  cases u with
  | bl k =>
    obtain ⟨k', e, q⟩ := h1 w1 H1 (Wd.le.refl _) s1
    cases e
    exact ⟨k, rfl, q⟩
  | _ => exact h1.elim
theorem hw_and1 (ha : PT X a (rT X.K C E da)) : PW X (.BoolOp .And [a] pos) (rT X.K C E da) := pw_and1 ha
theorem hw_or1 (ha : PT X a (rT X.K C E da)) : PW X (.BoolOp .Or [a] pos) (rT X.K C E da) := pw_or1 ha
theorem hw_and {rest : List Expr} (ha : PT X a (rT X.K C E da)) (hb : PW X (.BoolOp .And (b :: rest) pos) (rT X.K C E db)) : PW X (.BoolOp .And (a :: b :: rest) pos) (rT X.K C E (eAnd da db)) := by
  refine (pw_and ha hb).imp ?_
  rintro σ H Q ⟨w, env, S, s, h⟩
  unfold eAnd at h
  refine ⟨w, env, S, s, h.bind.mono fun u S1 w1 H1 le1 s1 h1 => ?_⟩
  cases u with
  | bl k =>
    refine ⟨k, rfl, ?_⟩
    cases k with
    | true => rw [if_pos rfl]; exact ⟨w1, env, S1, s1, h1⟩
    | false =>
      rw [if_neg Bool.false_ne_true]
      obtain ⟨k', e, q⟩ := h1 w1 H1 (Wd.le.refl _) s1
      cases e
      exact q
  | _ => exact h1.elim
theorem hw_or {rest : List Expr} (ha : PT X a (rT X.K C E da)) (hb : PW X (.BoolOp .Or (b :: rest) pos) (rT X.K C E db)) : PW X (.BoolOp .Or (a :: b :: rest) pos) (rT X.K C E (eOr da db)) := by
  refine (pw_or ha hb).imp ?_
  rintro σ H Q ⟨w, env, S, s, h⟩
  unfold eOr at h
  refine ⟨w, env, S, s, h.bind.mono fun u S1 w1 H1 le1 s1 h1 => ?_⟩
  cases u with
  | bl k =>
    refine ⟨k, rfl, ?_⟩
    cases k with
    | true =>
      rw [if_pos rfl]
      obtain ⟨k', e, q⟩ := h1 w1 H1 (Wd.le.refl _) s1
      cases e
      exact q
    | false => rw [if_neg Bool.false_ne_true]; exact ⟨w1, env, S1, s1, h1⟩
  | _ => exact h1.elim
theorem h_if (hc : PT X c (rT X.K C E dc)) (ha : PE X a (rE X.K C E da)) (hb : PE X b (rE X.K C E db)) : PE X (.IfExp c a b pos) (rE X.K C E (eIf dc da db)) := by
  refine (pe_ifExp hc ha hb).imp ?_
  rintro σ H Q ⟨w, env, S, s, h⟩
  unfold eIf at h
  refine ⟨w, env, S, s, h.bind.mono fun u S1 w1 H1 le1 s1 h1 => ?_⟩
  cases u with
  | bl k =>
    refine ⟨k, rfl, ?_⟩
    cases k with
    | true => rw [if_pos rfl]; exact ⟨w1, env, S1, s1, h1⟩
    | false => rw [if_neg Bool.false_ne_true]; exact ⟨w1, env, S1, s1, h1⟩
  | _ => exact h1.elim

/-! ### argument lists, displays -/
theorem ha_nil : PA X [] (rA X.K C E esNil) := pa_nil.imp fun σ H Q ⟨w, env, S, s, h⟩ => h w H (Wd.le.refl _) s [] .nil
theorem cons_rd {K : PySem.W.Frag} {w : Wd} {env : En} {S : Sto} {σ : L2.St} {H : Hp} {Q : List V → Hp → Prop} (s : Sim K C w env S σ H) (h : Wp K C E w env σ (esCons da ds env S) fun vs _ w' H' => ∀ xs, RepL K C w'.F w'.ρ xs vs → Q xs H') : tCons (rE K C E da) (rA K C E ds) σ H Q := by
  unfold esCons at h
  refine ⟨w, env, S, s, h.bind.mono fun u S1 w1 H1 le1 s1 h1 x rx => ⟨w1, env, S1, s1, h1.bind.mono fun us S2 w2 H2 le2 s2 h2 xs rxs => ?_⟩⟩
  exact h2 w2 H2 (Wd.le.refl _) s2 _ (.cons (RepW.up le2 rx) rxs)
theorem ha_cons (ha : PE X a (rE X.K C E da)) (hr : PA X es (rA X.K C E ds)) (hs : starEach (a :: es) X.env = (false, eval a X.env) :: starEach es X.env := by rfl) : PA X (a :: es) (rA X.K C E (esCons da ds)) :=
  (pa_cons ha hr hs).imp fun σ H Q ⟨w, env, S, s, h⟩ => cons_rd s h
theorem hk_nil : PK X [] (rA X.K C E esNil) := pk_nil.imp fun σ H Q ⟨w, env, S, s, h⟩ => h w H (Wd.le.refl _) s [] .nil
theorem hk_cons {kws : List Keyword} {nm : Option Str} {kpos : Pos} (ha : PE X a (rE X.K C E da)) (hr : PK X kws (rA X.K C E ds)) : PK X (⟨nm, a, kpos⟩ :: kws) (rA X.K C E (esCons da ds)) :=
  (pk_cons ha hr).imp fun σ H Q ⟨w, env, S, s, h⟩ => cons_rd s h

theorem line1000 {n : Nat} (h : n ≤ 1000) : n ≤ sizeLine := Nat.le_trans h (by decide)
theorem h_tup {x1} (h : PA X es (rA X.K C E ds)) : PE X (.Tuple es x1 pos) (rE X.K C E (eTup ds)) := by
  refine (pe_tup h).imp ?_
  rintro σ H Q ⟨w, env, S, s, h⟩
  unfold eTup at h
  refine ⟨w, env, S, s, h.bind.mono fun us S1 w1 H1 le1 s1 h1 xs rx => ?_⟩
  split at h1
  · rename_i hl
    refine ⟨by rw [rx.length]; exact line1000 hl, fun p hp => ?_⟩
    have g := Grow.one (o := .tup xs) s1.f hp
    obtain ⟨s2, le2⟩ := s1.grow g
    exact h1 _ _ le2 s2 _ (.tup (SqT.of upd_same) (RepL.le g.ff (fun _ _ e => e) rx))
  · exact h1.elim

/-- the new object becomes a plain value: a list -/
theorem fz_l {K : PySem.W.Frag} {w : Wd} {env : En} {S : Sto} {σ : L2.St} {H : Hp} {p : Addr} {xs : List PV} (s : Sim K C w env S σ H) (fr : Fr1 w p) (ns : NotMine env σ p) (o : ObjR K C w H p (.lst xs)) :
    ∃ w', w.le w' ∧ Sim K C w' env S σ H ∧ Rep K C w'.F w'.ρ (.ref p) (.lst xs) := by
  obtain ⟨vs, e, r⟩ := o
  have ff : Le w.F (upd w.F p (.lst vs)) := Le.put fr.1
  have le : w.le { w with F := upd w.F p (.lst vs) } := Wd.le.ff ff
  have keep : ∀ a, a ≠ p → w.F a = none → upd w.F p (.lst vs) a = none := fun a n q => by rw [upd_ne n]; exact q
  refine ⟨_, le, ⟨fun a u q => ?_, s.b, fun a u q => ?_, s.lb, s.le, fun i x q => ?_, s.od, s.ln, s.nd, fun n c a e1 e2 => ?_⟩, .lst (Rd.of upd_same) (RepL.le ff (fun _ _ e => e) r)⟩
  · by_cases h : a = p
    · subst h
      have q : upd w.F a (.lst vs) a = some u := q
      rw [upd_same] at q; rw [← q]; exact e
    · have q : upd w.F p (.lst vs) a = some u := q
      rw [upd_ne h] at q; exact s.f _ _ q
  · rcases s.fb a u q with h | h
    · exact .inl (keep a (fun h => by subst h; rw [fr.b] at q; cases q) h)
    · exact .inr h
  · have z := s.sl i x q
    cases x with
    | un => trivial
    | v y => obtain ⟨u, h1, h2⟩ := z; exact ⟨u, h1, RepW.up le h2⟩
    | own y =>
      obtain ⟨a, h1, ⟨f1, f2, f3⟩, h2⟩ := z
      exact ⟨a, h1, ⟨keep a (fun h => ns i _ q rfl (by rw [← h]; exact h1)) f1, f2, f3⟩, h2.up le fun _ e => e⟩
    | lk y =>
      obtain ⟨a, h0, h1, h2⟩ := z
      exact ⟨a, h0, h1, h2.up le fun _ e => e⟩
  · obtain ⟨f1, f2, h2⟩ := s.cl n c a e1 e2
    exact ⟨keep a (fun h => fr.r (by rw [← h]; exact List.mem_of_getElem? e2)) f1, f2, h2.up le fun _ e => e⟩
/-- .. of what yields a list -/
theorem h_fz {e : Expr} {d : Ex} (h : PE X e (rN X.K C E d)) (hl : ∀ env S v S', d env S = .ok v S' → ∃ xs, v = .lst xs) : PE X e (rE X.K C E d) := by
  refine h.imp ?_
  rintro σ H Q ⟨w, env, S, s, h⟩
  refine ⟨w, env, S, s, ?_⟩
  cases hd : d env S with
  | ok v S' =>
    rw [hd] at h
    obtain ⟨xs, rfl⟩ := hl _ _ _ _ hd
    intro w1 H1 le1 s1 p fr ns o
    obtain ⟨w2, le2, s2, r2⟩ := fz_l s1 fr ns o
    exact h w2 H1 (le1.trans le2) s2 _ r2
  | ex c S' => rw [hd] at h; exact h
  | bad => rw [hd] at h; exact h
theorem Sim.loose {K : PySem.W.Frag} {w : Wd} {env : En} {S : Sto} {σ : L2.St} {H : Hp} {p : Addr} {o : HO} (s : Sim K C w env S σ H) (hp : H p = none) : Sim K C w env S σ (upd H p o) ∧ Fr1 w p ∧ NotMine env σ p := by
  obtain ⟨s', _⟩ := s.grow (Grow.loose (o := o) s.f hp)
  refine ⟨s', ⟨s.f.gone hp, s.b.gone hp, fun hm => ?_⟩, fun i x hx hm e => ?_⟩
  rotate_left
  · have z := s.sl i x hx
    cases x with
    | own y => obtain ⟨a, h1, _, h2⟩ := z; rw [e] at h1; cases h1; obtain ⟨u, hu⟩ := h2.there; rw [hp] at hu; cases hu
    | lk y => cases hm
    | un => cases hm
    | v y => cases hm
  obtain ⟨n, hn⟩ := List.getElem?_of_mem hm
  have hlt := (List.getElem?_eq_some_iff.mp hn).1
  rw [s.ln] at hlt
  obtain ⟨_, _, h2⟩ := s.cl n _ p (List.getElem?_eq_getElem hlt) hn
  obtain ⟨u, hu⟩ := h2.there
  rw [hp] at hu; cases hu
theorem h_lstN (h : PA X es (rA X.K C E ds)) : PE X (.List es pos) (rN X.K C E (eLst ds)) := by
  refine (pe_lst h).imp ?_
  rintro σ H Q ⟨w, env, S, s, h⟩
  unfold eLst at h
  refine ⟨w, env, S, s, h.bind.mono fun us S1 w1 H1 le1 s1 h1 xs rx => ?_⟩
  split at h1
  · rename_i hl
    refine ⟨by rw [rx.length]; exact line1000 hl, fun p hp => ?_⟩
    obtain ⟨s2, fr, nm⟩ := s1.loose (o := .lst xs) hp
    exact h1 _ _ (Wd.le.refl _) s2 p fr nm ⟨xs, upd_same, rx⟩
  · exact h1.elim
theorem h_lst (h : PA X es (rA X.K C E ds)) : PE X (.List es pos) (rE X.K C E (eLst ds)) := h_fz (h_lstN h) fun env S v S' e => by
  unfold eLst at e
  cases hd : ds env S with
  | ok us S1 =>
    rw [hd] at e
    simp only [R.bind] at e
    split at e
    · cases e; exact ⟨_, rfl⟩
    · cases e
  | ex c S1 => rw [hd] at e; cases e
  | bad => rw [hd] at e; cases e
end
end Hw

set_option maxRecDepth 100000
set_option maxHeartbeats 4000000
namespace Hw
open PySem PySem.Spec L2

/-! ### places: what is looked at where it stands -/
inductive Pl where
  | val (x : PV) | slot (i : Nat) | cell (n : Nat)
abbrev Plx := En → Sto → R Pl
def res (p : Pl) (env : En) (S : Sto) : Option PV := match p with
  | .val x => some x
  | .slot i => match env[i]? with
    | some (.v x) => some x
    | some (.own x) => some x
    | some (.lk x) => some x
    | _ => none
  | .cell n => S[n]?
def pV (d : Ex) : Plx := fun env S => (d env S).bind fun v S => .ok (.val v) S
def pBor (i : Nat) : Plx := fun env S => match env[i]? with
  | some (.v x) => .ok (.val x) S
  | some .un => .bad
  | some _ => .ok (.slot i) S
  | none => .bad
def pDer (d : Ex) : Plx := fun env S => (d env S).bind fun v S => match v with | .ptr n => .ok (.cell n) S | _ => .bad
def eP1 (f : PV → Option PV) (a : Plx) : Ex := fun env S => (a env S).bind fun p S => match res p env S with
  | some u => .opt (f u) S
  | none => .bad
def eP2 (f : PV → PV → Option PV) (a b : Plx) : Ex := fun env S => (a env S).bind fun p S => (b env S).bind fun q S => match res p env S with
  | some u => match res q env S with
    | some v => .opt (f u v) S
    | none => .bad
  | none => .bad

section
variable (K : PySem.W.Frag) (C : Kx → Addr) (E : WX)
def SeenP (w : Wd) (σ : L2.St) (x : V) : Pl → Prop
  | .val y => Rep K C w.F w.ρ x y
  | .slot i => σ[i]? = some (some x)
  | .cell n => ∃ a, w.ρ[n]? = some a ∧ x = .ref a
def rP (d : Plx) : TE := fun σ H Q => ∃ w env S, Sim K C w env S σ H ∧ Wp K C E w env σ (d env S) fun p _ w' H' => ∀ x, SeenP K C w' σ x p → Q x H'
end
section
variable {X : Cx} {C : Kx → Addr} {E : WX} {a b c : Expr} {da db dc : Plx} {pos : Pos} {es : List Expr}
theorem SeenP.up {K : PySem.W.Frag} {w w' : Wd} {σ : L2.St} {x : V} {p : Pl} (le : w.le w') (h : SeenP K C w σ x p) : SeenP K C w' σ x p := by
  cases p with
  | val y => exact RepW.up le h
  | slot i => exact h
  | cell n => obtain ⟨a, h1, h2⟩ := h; exact ⟨a, le.get h1, h2⟩
theorem ObjR.ob {K : PySem.W.Frag} {w : Wd} {H : Hp} {a : Addr} {x : PV} (r : ObjR K C w H a x) : Ob K C w.F w.ρ H a x := by
  cases x with
  | lst xs => obtain ⟨vs, e, r⟩ := r; exact ⟨vs, Rd.of e, r⟩
  | dI xs => obtain ⟨vs, e, r⟩ := r; exact ⟨vs, Rd.of e, r⟩
  | dT xs => obtain ⟨vs, e, r⟩ := r; exact ⟨vs, Rd.of e, r⟩
  | _ => exact r.elim
theorem LkR.ob {K : PySem.W.Frag} {w : Wd} {B H : Hp} {a : Addr} {x : PV} (r : LkR K C w B a x) (h : Le B H) : Ob K C w.F w.ρ H a x := by
  cases x with
  | lst xs => obtain ⟨vs, e, r⟩ := r; exact ⟨vs, Rd.of (h _ _ e), r⟩
  | dI xs => obtain ⟨o, vs, e, r⟩ := r; exact ⟨vs, .inr ⟨o, h _ _ e⟩, r⟩
  | dT xs => obtain ⟨o, vs, e, r⟩ := r; exact ⟨vs, .inr ⟨o, h _ _ e⟩, r⟩
  | _ => exact r.elim
theorem SeenP.seen {K : PySem.W.Frag} {w : Wd} {env : En} {S : Sto} {σ : L2.St} {H : Hp} {x : V} {p : Pl} {u : PV} (s : Sim K C w env S σ H) (h : SeenP K C w σ x p) (e : res p env S = some u) : Seen K C w.F w.ρ H x u := by
  cases p with
  | val y => cases e; exact .inl h
  | slot i =>
    have h : σ[i]? = some (some x) := h
    have e : (match env[i]? with
      | some (.v x) => some x
      | some (.own x) => some x
      | some (.lk x) => some x
      | _ => none) = some u := e
    cases q : env[i]? with
    | none => rw [q] at e; cases e
    | some y =>
      rw [q] at e
      have z := s.sl i y q
      cases y with
      | un => cases e
      | v t => cases e; obtain ⟨o, h1, h2⟩ := z; rw [h] at h1; cases h1; exact .inl h2
      | own t => cases e; obtain ⟨o, h1, _, h2⟩ := z; rw [h] at h1; cases h1; exact .inr ⟨o, rfl, h2.ob⟩
      | lk t => cases e; obtain ⟨o, _, h1, h2⟩ := z; rw [h] at h1; cases h1; exact .inr ⟨o, rfl, h2.ob s.b⟩
  | cell n =>
    obtain ⟨o, h1, h2⟩ := h
    subst h2
    obtain ⟨_, _, h3⟩ := s.cl n u o e h1
    exact .inr ⟨o, rfl, h3.ob⟩
theorem p_v {e : Expr} {d : Ex} (h : PE X e (rE X.K C E d)) : PE X e (rP X.K C E (pV d)) := by
  refine h.imp ?_
  rintro σ H Q ⟨w, env, S, s, h⟩
  exact ⟨w, env, S, s, h.bind.mono fun u S1 w1 H1 le1 s1 h1 x rx => h1 w1 H1 (Wd.le.refl _) s1 x rx⟩
theorem p_bor (i : Nat) {x : Str} {pos : Pos} (hN : X.N[i]? = some x := by rfl) (hv : Vis X.env.scope x := by first | exact Or.inl rfl | exact Or.inr (Or.inl rfl) | exact Or.inr (Or.inr rfl)) (hd : (x == ("__debug__" : Str)) = false := by decide)
    (hcd : (x == ("__classdict__" : Str)) = false := by decide) : PE X (.Name x pos) (rP X.K C E (pBor i)) := by
  refine (pe_var (X := X) (i := i) hN hv hd hcd).imp ?_
  rintro σ H Q ⟨w, env, S, s, h⟩
  unfold pBor at h
  cases q : env[i]? with
  | none => rw [q] at h; exact h.elim
  | some y =>
    rw [q] at h
    have z := s.sl i y q
    cases y with
    | un => exact h.elim
    | v t => obtain ⟨o, h1, h2⟩ := z; exact ⟨o, h1, h w H (Wd.le.refl _) s o h2⟩
    | own t => obtain ⟨o, h1, _, h2⟩ := z; exact ⟨_, h1, h w H (Wd.le.refl _) s _ h1⟩
    | lk t => obtain ⟨o, _, h1, h2⟩ := z; exact ⟨_, h1, h w H (Wd.le.refl _) s _ h1⟩
theorem p_der {e : Expr} {d : Ex} (h : PE X e (rE X.K C E d)) : PE X e (rP X.K C E (pDer d)) := by
  refine h.imp ?_
  rintro σ H Q ⟨w, env, S, s, h⟩
  refine ⟨w, env, S, s, h.bind.mono fun u S1 w1 H1 le1 s1 h1 x rx => ?_⟩
  cases u with
  | ptr n => cases rx with | ptr r => exact h1 w1 H1 (Wd.le.refl _) s1 _ ⟨_, r, rfl⟩
  | _ => exact h1.elim

theorem p1_rd {K : PySem.W.Frag} {f : PV → Option PV} {r : V → Hp → VK → Prop} (hf : Op1 K f r) {σ : L2.St} {H : Hp} {Q : VK} (h : rE K C E (eP1 f da) σ H Q) : rP K C E da σ H fun x H1 => r x H1 Q := by
  obtain ⟨w, env, S, s, h⟩ := h
  unfold eP1 at h
  refine ⟨w, env, S, s, h.bind.mono fun p S1 w1 H1 le1 s1 h1 x rx => ?_⟩
  split at h1
  · rename_i u e
    exact run1 hf s1 (rx.seen s1 e) h1 fun q z w' H' le s' p rq => p q rq
  · exact h1.elim
theorem p2_rd {K : PySem.W.Frag} {f : PV → PV → Option PV} {r : R2} (hf : Op2 K f r) {σ : L2.St} {H : Hp} {Q : VK} {P : PV → Sto → Wd → Hp → Prop} {w : Wd} {env : En} {S : Sto} (s : Sim K C w env S σ H) (h : Wp K C E w env σ (eP2 f da db env S) P)
    (hP : ∀ q z S' w' H', Sim K C w' env S' σ H' → P z S' w' H' → Rep K C w'.F w'.ρ q z → Q q H') : rP K C E da σ H fun x H1 => rP K C E db σ H1 fun y H2 => r x y H2 Q := by
  unfold eP2 at h
  refine ⟨w, env, S, s, h.bind.mono fun p S1 w1 H1 le1 s1 h1 x rx => ⟨w1, env, S1, s1, h1.bind.mono fun q S2 w2 H2 le2 s2 h2 y ry => ?_⟩⟩
  split at h2
  · rename_i u e
    split at h2
    · rename_i v e2
      exact run2 hf s2 ((rx.up le2).seen s2 e) (ry.seen s2 e2) h2 fun q z w' H' le s' p rq => hP q z _ w' H' s' p rq
    · exact h2.elim
  · exact h2.elim
theorem hp_op2 {op : Operator} {r : R2} {f : PV → PV → Option PV} (ho : OpR X (binaryOp op) r) (hf : Op2 X.K f r) (ha : PE X a (rP X.K C E da)) (hb : PE X b (rP X.K C E db)) : PE X (.BinOp a op b pos) (rE X.K C E (eP2 f da db)) :=
  (pe_op ho ha hb).imp fun σ H Q ⟨w, env, S, s, h⟩ => p2_rd hf s h fun q z S' w' H' s' p rq => p q rq
theorem hp_cmp {op : CmpOp} {r : R2} {f : PV → PV → Option PV} (ho : OpR X (compareOp op) r) (hf : Op2 X.K f r) (hm : behindInMarks op b = false) (ha : PE X a (rP X.K C E da)) (hb : PE X b (rP X.K C E db)) : PE X (.Compare a [op] [b] pos) (rE X.K C E (eP2 f da db)) :=
  (pe_cmpR ho ha hb hm).imp fun σ H Q ⟨w, env, S, s, h⟩ => p2_rd hf s h fun q z S' w' H' s' p rq => p q rq
theorem hpt_cmp {op : CmpOp} {r : R2} {f : PV → PV → Option PV} (ho : OpR X (compareOp op) r) (hf : Op2 X.K f r) (hm : behindInMarks op b = false) (ha : PE X a (rP X.K C E da)) (hb : PE X b (rP X.K C E db)) : PT X (.Compare a [op] [b] pos) (rT X.K C E (eP2 f da db)) :=
  (pt_cmpR ho ha hb hm).imp fun σ H Q ⟨w, env, S, s, h⟩ => p2_rd hf s h fun q z S' w' H' s' p rq => by
    obtain ⟨bb, e, p⟩ := p
    subst e
    exact ⟨bb, rep_bl rq, p⟩
theorem hp_ix {r : R2} {f : PV → PV → Option PV} (ho : IxR X r) (hf : Op2 X.K f r) (hs : PlainIx b) (ha : PE X a (rP X.K C E da)) (hb : PE X b (rP X.K C E db)) : PE X (.Subscript a b pos) (rE X.K C E (eP2 f da db)) :=
  (pe_ix ho ha hb hs).imp fun σ H Q ⟨w, env, S, s, h⟩ => p2_rd hf s h fun q z S' w' H' s' p rq => p q rq

/-! ### calls of built-in functions with one argument, two -/
section
variable {x : Str} {p : Pos} {id T : String} {r : List V → Hp → VK → Prop}
theorem pa1_rd {σ : L2.St} {H : Hp} {Q : VK} {ta : TE} (h : ta σ H fun x H1 => r [x] H1 Q) : tCB r (tCons ta tNil) σ H Q := h
theorem hp_b1 {f : PV → Option PV} (hc : CallR X (.builtin id) r) (hf : Op1 X.K f fun x H Q => r [x] H Q) (hg : Gl X x) (hm : X.mg x = none) (hv : bootBuiltins x = some (.builtin id)) (ha : PE X a (rP X.K C E da)) (hn : x ≠ "__name__" := by decide) (hdb : (x == ("__debug__" : Str)) = false := by decide)
    (he : starEach [a] X.env = [(false, eval a X.env)] := by rfl) : PE X (.Call (.Name x p) [a] [] pos) (rE X.K C E (eP1 f da)) :=
  (pe_callB hc hg hm hv (pa_cons ha pa_nil he) hn hdb he).imp fun σ H Q h => p1_rd hf h
theorem hp_t1 {f : PV → Option PV} (hc : CallR X (.type T) r) (hf : Op1 X.K f fun x H Q => r [x] H Q) (hg : Gl X x) (hm : X.mg x = none) (hv : bootBuiltins x = some (.type T)) (ha : PE X a (rP X.K C E da)) (hn : x ≠ "__name__" := by decide) (hdb : (x == ("__debug__" : Str)) = false := by decide)
    (he : starEach [a] X.env = [(false, eval a X.env)] := by rfl) : PE X (.Call (.Name x p) [a] [] pos) (rE X.K C E (eP1 f da)) :=
  (pe_callTy hc hg hm hv (pa_cons ha pa_nil he) hn hdb he).imp fun σ H Q h => p1_rd hf h
theorem hp_b2 {f : PV → PV → Option PV} (hc : CallR X (.builtin id) r) (hf : Op2 X.K f fun x y H Q => r [x, y] H Q) (hg : Gl X x) (hm : X.mg x = none) (hv : bootBuiltins x = some (.builtin id)) (ha : PE X a (rP X.K C E da)) (hb : PE X b (rP X.K C E db)) (hn : x ≠ "__name__" := by decide) (hdb : (x == ("__debug__" : Str)) = false := by decide)
    (he : starEach [a, b] X.env = [(false, eval a X.env), (false, eval b X.env)] := by rfl) (he2 : starEach [b] X.env = [(false, eval b X.env)] := by rfl) : PE X (.Call (.Name x p) [a, b] [] pos) (rE X.K C E (eP2 f da db)) :=
  (pe_callB hc hg hm hv (pa_cons ha (pa_cons hb pa_nil he2) (by rw [he, he2])) hn hdb (by rw [he, he2]) (by rw [he2] <;> rfl)).imp fun σ H Q ⟨w, env, S, s, h⟩ =>
    show rP _ _ _ da σ H fun x H1 => rP _ _ _ db σ H1 fun y H2 => r [x, y] H2 Q from p2_rd (r := fun x y H Q => r [x, y] H Q) hf s h fun q z S' w' H' s' p rq => p q rq
end
end
end Hw

set_option maxRecDepth 100000
set_option maxHeartbeats 4000000
namespace Hw
open PySem PySem.Spec L2

/-! ### what is walked -/
abbrev Itx := En → Sto → R (List PV)
def itemsOf : PV → Option (List PV)
  | .lst xs => some xs
  | .tup xs => some xs
  | .dI kvs => some (kvs.map fun p => .int p.1)
  | .dT kvs => some (kvs.map fun p => .tup (p.1.map .int))
  | _ => none
def iP (d : Plx) : Itx := fun env S => (d env S).bind fun p S => match p with
  | .val x => .opt (itemsOf x) S
  | .slot i => match env[i]? with
    | some (.lk x) => .opt (itemsOf x) S
    | _ => .bad
  | .cell _ => .bad
def rangeL (lo : Int) (n : Nat) : List PV := (List.range n).map fun (i : Nat) => .int (lo + i)
def okN (i : Int) : Bool := decide (-(2 ^ 62) ≤ i) && decide (i < 2 ^ 62)
def iR1 (a : Ex) : Itx := fun env S => (a env S).bind fun u S => match u with
  | .int j => if okN j then .ok (rangeL 0 j.toNat) S else .bad
  | _ => .bad
def iR2 (a b : Ex) : Itx := fun env S => (a env S).bind fun u S => (b env S).bind fun v S => match u, v with
  | .int i, .int j => if okN i && okN j then .ok (rangeL i (j - i).toNat) S else .bad
  | _, _ => .bad
/-- range(a, b, -1) -/
def iRd (a b c : Ex) : Itx := fun env S => (a env S).bind fun u S => (b env S).bind fun v S => (c env S).bind fun t S => match u, v, t with
  | .int i, .int j, .int k => if okN i && okN j && k == -1 then .ok ((List.range (i - j).toNat).map fun (m : Nat) => .int (i - m)) S else .bad
  | _, _, _ => .bad
def enumL (xs : List PV) : List PV := (List.range xs.length).zipWith (fun (i : Nat) x => .tup [.int i, x]) xs
def iEn (d : Plx) : Itx := fun env S => (d env S).bind fun p S => match p with
  | .val (.lst xs) => .ok (enumL xs) S
  | _ => .bad

section
variable (K : PySem.W.Frag) (C : Kx → Addr) (E : WX)
def Feeds (w : Wd) (J : It) (xs : List PV) : Prop := ∀ w1 H1, w.le w1 → Le w1.F H1 → Le w1.B H1 →
  (∀ i y, xs[i]? = some y → J.go i H1 ∧ ∀ x H2, J.yld i H1 x H2 → ∃ F2, Grow w1.F H1 F2 H2 ∧ Rep K C F2 w1.ρ x y) ∧ J.stop xs.length H1
def rIt (d : Itx) : TI := fun σ H R => ∃ w env S, Sim K C w env S σ H ∧ Wp K C E w env σ (d env S) fun xs _ w' H' => ∀ J, Feeds K C w' J xs → R J H'
end
theorem _root_.L2.PI.imp {X : Cx} {tg e : Expr} {t t' : TI} (h : PI X tg e t) (hi : ∀ σ H Q, t' σ H Q → t σ H Q) : PI X tg e t' := ⟨fun pins s σ H Q I q => h.run pins s σ H Q I (hi _ _ _ q)⟩
theorem _root_.L2.PI.or {X : Cx} {tg e : Expr} {t t' : TI} (h : PI X tg e t) (h' : PI X tg e t') : PI X tg e (fun σ H R => t σ H R ∨ t' σ H R) :=
  ⟨fun pins s σ H Q I q => q.elim (h.run pins s σ H Q I) (h'.run pins s σ H Q I)⟩
section
variable {X : Cx} {C : Kx → Addr} {E : WX} {a b c e tg : Expr} {pos : Pos} {K : PySem.W.Frag} {w w' : Wd} {env : En} {S : Sto} {σ : L2.St} {H : Hp}
theorem Feeds.up {J : It} {xs : List PV} (h : Feeds K C w J xs) (le : w.le w') : Feeds K C w' J xs := fun w1 H1 le1 f b => h w1 H1 (le.trans le1) f b
theorem RepI.keys {F : Hp} {ρ : List Addr} : ∀ {kv : List (Key × V)} {kvs : List (Int × PV)}, RepI K C F ρ kv kvs → kv.map (·.1) = kvs.map fun p => Sum.inl p.1
  | _, _, .nil => rfl
  | _, _, .cons _ s => by simp [RepI.keys s]
theorem RepT.keys {F : Hp} {ρ : List Addr} : ∀ {kv : List (List Key × V)} {kvs : List (List Int × PV)}, RepT K C F ρ kv kvs → kv.map (·.1) = kvs.map fun p => p.1.map Sum.inl
  | _, _, .nil => rfl
  | _, _, .cons _ s => by simp [RepT.keys s]
theorem SqL.tracked {H : Hp} {a : Addr} {vs : List V} (h : H a = some (.lst vs)) {xs : List V} (q : SqL K H a xs) (hk : K.lookup a = none) : xs = vs := by
  rcases q with (q | ⟨o, q⟩) | ⟨o, _, _, q, _⟩
  · rw [h] at q; cases q; rfl
  · rw [h] at q; cases q
  · rw [hk] at q; cases q
theorem feed_l {a' : Addr} {xs : List PV} {vs : List V} (r : RepL K C w.F w.ρ vs xs) (hs : ∀ (w1 : Wd) (H1 : Hp), w.le w1 → Le w1.F H1 → Le w1.B H1 → SqL K H1 a' vs) : Feeds K C w (Itl K a') xs := by
  intro w1 H1 le1 hf hb
  have q := hs w1 H1 le1 hf hb
  refine ⟨fun i y e => ?_, ⟨vs, q, by rw [r.length]; exact Nat.le_refl _⟩⟩
  obtain ⟨v, ev, rv⟩ := r.get e
  refine ⟨⟨vs, v, q, ev⟩, fun x H2 h => ?_⟩
  obtain ⟨rfl, h⟩ := h
  have z := h vs q
  rw [ev] at z; cases z
  exact ⟨w1.F, Grow.refl hf, RepW.up le1 rv⟩
theorem feed_t {a' : Addr} {xs : List PV} {vs : List V} (r : RepL K C w.F w.ρ vs xs) (hs : ∀ (w1 : Wd) (H1 : Hp), w.le w1 → Le w1.F H1 → Le w1.B H1 → SqT K H1 a' vs) : Feeds K C w (Itt K a') xs := by
  intro w1 H1 le1 hf hb
  have q := hs w1 H1 le1 hf hb
  refine ⟨fun i y e => ?_, ⟨vs, q, by rw [r.length]; exact Nat.le_refl _⟩⟩
  obtain ⟨v, ev, rv⟩ := r.get e
  refine ⟨⟨vs, v, q, ev⟩, fun x H2 h => ?_⟩
  obtain ⟨rfl, h⟩ := h
  have z := h vs q
  rw [ev] at z; cases z
  exact ⟨w1.F, Grow.refl hf, RepW.up le1 rv⟩
theorem feed_k {d : Addr} {o : Obj} {kv : List (Key × V)} {kvs : List (Int × PV)} (r : RepI K C w.F w.ρ kv kvs) (hs : ∀ (w1 : Wd) (H1 : Hp), w.le w1 → Le w1.F H1 → Le w1.B H1 → H1 d = some (.frz o (.dK kv))) :
    Feeds K C w (Itk d o kv) (kvs.map fun p => .int p.1) := by
  intro w1 H1 le1 hf hb
  have q := hs w1 H1 le1 hf hb
  have hk := r.keys
  have hl : kv.length = kvs.length := by simpa using congrArg List.length hk
  refine ⟨fun i y e => ?_, ⟨q, by simp [hl]⟩⟩
  obtain ⟨hi, _⟩ := List.getElem?_eq_some_iff.mp e
  have hi' : i < kv.length := by rw [hl]; simpa using hi
  refine ⟨⟨q, hi'⟩, fun x H2 h => ?_⟩
  obtain ⟨rfl, k, v, h1, h2⟩ := h
  have z : (kv.map (·.1))[i]? = some k := by rw [List.getElem?_map, h1]; rfl
  rw [hk, List.getElem?_map] at z
  rw [List.getElem?_map] at e
  cases q2 : kvs[i]? with
  | none => rw [q2] at e; cases e
  | some p =>
    rw [q2] at e z
    simp only [Option.map_some, Option.some.injEq] at e z
    subst z
    subst e
    rw [h2]
    exact ⟨w1.F, Grow.refl hf, .int _⟩
theorem rep_ints : ∀ (ks : List Int) (F : Hp) (ρ : List Addr), RepL K C F ρ ((ks.map Sum.inl).map kV) (ks.map PV.int)
  | [], _, _ => .nil
  | k :: ks, F, ρ => .cons (.int k) (rep_ints ks F ρ)
theorem keysT : ∀ {kv : List (List Key × V)} {kvs : List (List Int × PV)} {i : Nat} {k : List Key} {v : V} {p : List Int × PV} {F : Hp} {ρ : List Addr}, RepT K C F ρ kv kvs → kv[i]? = some (k, v) → kvs[i]? = some p → k = p.1.map Sum.inl
  | _, _, 0, _, _, _, _, _, .cons _ _, e, e2 => by simp at e e2; rw [← e.1, ← e2]
  | _, _, i + 1, _, _, _, _, _, .cons _ s, e, e2 => keysT (i := i) s (by simpa using e) (by simpa using e2)
  | _, _, _, _, _, _, _, _, .nil, e, _ => by simp at e
theorem feed_kt {d : Addr} {o : Obj} {kv : List (List Key × V)} {kvs : List (List Int × PV)} (r : RepT K C w.F w.ρ kv kvs) (hs : ∀ (w1 : Wd) (H1 : Hp), w.le w1 → Le w1.F H1 → Le w1.B H1 → H1 d = some (.frz o (.dT kv))) :
    Feeds K C w (Itkt d o kv) (kvs.map fun p => .tup (p.1.map .int)) := by
  intro w1 H1 le1 hf hb
  have q := hs w1 H1 le1 hf hb
  have hk := r.keys
  have hl : kv.length = kvs.length := by simpa using congrArg List.length hk
  refine ⟨fun i y e => ?_, ⟨q, by simp [hl]⟩⟩
  obtain ⟨hi, _⟩ := List.getElem?_eq_some_iff.mp e
  have hi' : i < kv.length := by rw [hl]; simpa using hi
  refine ⟨⟨q, hi'⟩, fun x H2 h => ?_⟩
  obtain ⟨rfl, k, v, p, h1, h2, h3⟩ := h
  rw [List.getElem?_map] at e
  cases q2 : kvs[i]? with
  | none => rw [q2] at e; cases e
  | some t =>
    rw [q2] at e
    simp only [Option.map_some, Option.some.injEq] at e
    subst e
    subst h2
    have ek := keysT r h1 q2
    subst ek
    by_cases hp : w1.F p = none
    · refine ⟨upd w1.F p (.tup ((t.1.map Sum.inl).map kV)), ⟨Le.put hp, Le.refl _, fun a u z => ?_, fun a z _ => ?_⟩, .tup (SqT.of upd_same) (rep_ints _ _ _)⟩
      · by_cases ha : a = p
        · subst ha; rw [upd_same] at z; rw [← z]; exact h3
        · rw [upd_ne ha] at z; exact hf _ _ z
      · by_cases ha : a = p
        · subst ha; exact .inr ⟨_, upd_same⟩
        · rw [upd_ne ha]; exact .inl z
    · cases hp2 : w1.F p with
      | none => exact absurd hp2 hp
      | some u =>
        have z := hf _ _ hp2
        rw [h3] at z
        have z' := Option.some.inj z
        subst z'
        exact ⟨w1.F, Grow.refl hf, .tup (SqT.of hp2) (rep_ints _ _ _)⟩
/-- a value, or a locked slot, walked -/
theorem i_p {d : Plx} (h : PE X e (rP X.K C E d)) : PI X tg e (rIt X.K C E (iP d)) := by
  refine (((pi_list h).or (pi_tup h)).or (pi_keys h)).imp ?_
  rintro σ H T ⟨w, env, S, s, h⟩
  unfold iP at h
  cases hd : d env S with
  | ex c S1 =>
    rw [hd] at h
    exact .inl (.inl ⟨w, env, S, s, by rw [hd]; exact h⟩)
  | bad => rw [hd] at h; exact h.elim
  | ok p S1 =>
    rw [hd] at h
    cases p with
    | cell n => exact h.elim
    | val y =>
      have h : Wp X.K C E w env σ (R.opt (itemsOf y) S1) (fun xs _ w' H' => ∀ J, Feeds X.K C w' J xs → T J H') := h
      cases y with
      | lst xs =>
        refine .inl (.inl ⟨w, env, S, s, ?_⟩)
        rw [hd]
        intro w1 H1 le1 s1 x r
        have r : Rep X.K C w1.F w1.ρ x (.lst xs) := r
        cases r with
        | lst q r => exact ⟨_, rfl, ⟨_, .inl (Rd.le s1.f q)⟩, h w1 H1 le1 s1 _ (feed_l r fun w2 H2 le f b => .inl (Rd.le (le.f.trans f) q))⟩
      | tup xs =>
        refine .inl (.inr ⟨w, env, S, s, ?_⟩)
        rw [hd]
        intro w1 H1 le1 s1 x r
        have r : Rep X.K C w1.F w1.ρ x (.tup xs) := r
        cases r with
        | tup q r => exact ⟨_, rfl, ⟨_, SqT.le s1.f q⟩, h w1 H1 le1 s1 _ (feed_t r fun w2 H2 le f b => SqT.le (le.f.trans f) q)⟩
      | dI xs =>
        refine .inr ⟨w, env, S, s, ?_⟩
        rw [hd]
        intro w1 H1 le1 s1 x r
        have r : Rep X.K C w1.F w1.ρ x (.dI xs) := r
        cases r with
        | dI q r => exact ⟨_, _, rfl, .inl ⟨_, s1.f _ _ q, h w1 H1 le1 s1 _ (feed_k r fun w2 H2 le f b => f _ _ (le.f _ _ q))⟩⟩
      | dT xs =>
        refine .inr ⟨w, env, S, s, ?_⟩
        rw [hd]
        intro w1 H1 le1 s1 x r
        have r : Rep X.K C w1.F w1.ρ x (.dT xs) := r
        cases r with
        | dT q r => exact ⟨_, _, rfl, .inr ⟨_, s1.f _ _ q, h w1 H1 le1 s1 _ (feed_kt r fun w2 H2 le f b => f _ _ (le.f _ _ q))⟩⟩
      | _ => exact h.elim
    | slot i =>
      have h : Wp X.K C E w env σ (match env[i]? with
        | some (.lk x) => R.opt (itemsOf x) S1
        | _ => .bad) (fun xs _ w' H' => ∀ J, Feeds X.K C w' J xs → T J H') := h
      cases q : env[i]? with
      | none => rw [q] at h; exact h.elim
      | some y =>
        rw [q] at h
        cases y with
        | lk t =>
          cases t with
          | lst xs =>
            refine .inl (.inl ⟨w, env, S, s, ?_⟩)
            rw [hd]
            intro w1 H1 le1 s1 x r
            have r : σ[i]? = some (some x) := r
            obtain ⟨a, _, e1, vs, q, rr⟩ := s1.sl i _ q
            rw [r] at e1; cases e1
            exact ⟨_, rfl, ⟨_, SqL.of (s1.b _ _ q)⟩, h w1 H1 le1 s1 _ (feed_l rr fun w2 H2 le f b => SqL.of (b _ _ (by rw [le.b]; exact q)))⟩
          | dI xs =>
            refine .inr ⟨w, env, S, s, ?_⟩
            rw [hd]
            intro w1 H1 le1 s1 x r
            have r : σ[i]? = some (some x) := r
            obtain ⟨a, _, e1, o, vs, q, rr⟩ := s1.sl i _ q
            rw [r] at e1; cases e1
            exact ⟨_, _, rfl, .inl ⟨_, s1.b _ _ q, h w1 H1 le1 s1 _ (feed_k rr fun w2 H2 le f b => b _ _ (by rw [le.b]; exact q))⟩⟩
          | dT xs =>
            refine .inr ⟨w, env, S, s, ?_⟩
            rw [hd]
            intro w1 H1 le1 s1 x r
            have r : σ[i]? = some (some x) := r
            obtain ⟨a, _, e1, o, vs, q, rr⟩ := s1.sl i _ q
            rw [r] at e1; cases e1
            exact ⟨_, _, rfl, .inr ⟨_, s1.b _ _ q, h w1 H1 le1 s1 _ (feed_kt rr fun w2 H2 le f b => b _ _ (by rw [le.b]; exact q))⟩⟩
          | tup xs =>
            refine .inl (.inl ⟨w, env, S, s, ?_⟩)
            rw [hd]
            intro w1 H1 le1 s1 x r
            obtain ⟨a, _, e1, z⟩ := s1.sl i _ q
            exact z.elim
          | _ => exact h.elim
        | _ => exact h.elim
theorem okN_iff {i : Int} : okN i = true ↔ -(2 ^ 62) ≤ i ∧ i < 2 ^ 62 := by
  unfold okN
  rw [Bool.and_eq_true, decide_eq_true_eq, decide_eq_true_eq]
theorem feed_r (lo : Int) (n : Nat) : Feeds K C w (Itr lo n) (rangeL lo n) := by
  intro w1 H1 le1 hf hb
  refine ⟨fun i y e => ?_, by show n ≤ (rangeL lo n).length; simp [rangeL]⟩
  unfold rangeL at e
  rw [List.getElem?_map] at e
  cases q : (List.range n)[i]? with
  | none => rw [q] at e; cases e
  | some m =>
    rw [q] at e
    obtain ⟨hi, hm⟩ := List.getElem?_eq_some_iff.mp q
    rw [List.getElem_range] at hm
    rw [List.length_range] at hi
    subst hm
    simp only [Option.map_some, Option.some.injEq] at e
    subst e
    refine ⟨hi, fun x H2 h => ?_⟩
    obtain ⟨rfl, rfl⟩ := h
    exact ⟨w1.F, Grow.refl hf, .int _⟩
theorem i_r1 {p : Pos} {da : Ex} (hg : Gl X "range") (hm : X.mg "range" = none) (ha : PE X a (rE X.K C E da)) (hs : starEach [a] X.env = [(false, eval a X.env)] := by rfl) : PI X tg (.Call (.Name "range" p) [a] [] pos) (rIt X.K C E (iR1 da)) := by
  refine (pi_range1 hg hm (pa_cons ha pa_nil hs) hs).imp ?_
  rintro σ H T ⟨w, env, S, s, h⟩
  unfold iR1 at h
  refine ⟨w, env, S, s, h.bind.mono fun u S1 w1 H1 le1 s1 h1 x rx => ?_⟩
  cases u with
  | int j =>
    cases rx
    have h1 : Wp X.K C E w1 env σ (if okN j then .ok (rangeL 0 j.toNat) S1 else .bad) (fun xs _ w' H' => ∀ J, Feeds X.K C w' J xs → T J H') := h1
    split at h1
    · rename_i hj
      exact ⟨j, rfl, (okN_iff.mp hj).1, (okN_iff.mp hj).2, h1 w1 H1 (Wd.le.refl _) s1 _ (feed_r _ _)⟩
    · exact h1.elim
  | _ => exact h1.elim
theorem i_r2 {p : Pos} {da db : Ex} (hg : Gl X "range") (hm : X.mg "range" = none) (ha : PE X a (rE X.K C E da)) (hb : PE X b (rE X.K C E db)) (hs : starEach [a, b] X.env = [(false, eval a X.env), (false, eval b X.env)] := by rfl) (hs2 : starEach [b] X.env = [(false, eval b X.env)] := by rfl) :
    PI X tg (.Call (.Name "range" p) [a, b] [] pos) (rIt X.K C E (iR2 da db)) := by
  refine (pi_range2 hg hm (pa_cons ha (pa_cons hb pa_nil hs2) (by rw [hs, hs2])) hs hs2).imp ?_
  rintro σ H T ⟨w, env, S, s, h⟩
  unfold iR2 at h
  refine ⟨w, env, S, s, h.bind.mono fun u S1 w1 H1 le1 s1 h1 x rx => ⟨w1, env, S1, s1, h1.bind.mono fun v S2 w2 H2 le2 s2 h2 y ry => ?_⟩⟩
  cases u with
  | int i =>
    cases rx
    cases v with
    | int j =>
      cases ry
      have h2 : Wp X.K C E w2 env σ (if okN i && okN j then .ok (rangeL i (j - i).toNat) S2 else .bad) (fun xs _ w' H' => ∀ J, Feeds X.K C w' J xs → T J H') := h2
      split at h2
      · rename_i hj
        obtain ⟨q1, q2⟩ := Bool.and_eq_true_iff.mp hj
        exact ⟨i, j, rfl, ⟨(okN_iff.mp q1).1, (okN_iff.mp q1).2, (okN_iff.mp q2).1, (okN_iff.mp q2).2⟩, h2 w2 H2 (Wd.le.refl _) s2 _ (feed_r _ _)⟩
      · exact h2.elim
    | _ => exact h2.elim
  | _ => exact h2.elim
end
end Hw

set_option maxRecDepth 100000
set_option maxHeartbeats 4000000
namespace Hw
open PySem PySem.Spec L2

/-! ### targets -/
abbrev Tgt := PV → En → Option En
def setV (i : Nat) (x : SV) (env : En) : Option En := match env[i]? with
  | some (.lk _) => none
  | some _ => some (env.set i x)
  | none => none
def tgN (i : Nat) : Tgt := fun v env => setV i (.v v) env
def tgs : List Nat → List PV → En → Option En
  | [], [], env => some env
  | i :: is, v :: vs, env => (setV i (.v v) env).bind fun e => tgs is vs e
  | _, _, _ => none
def tgT (is : List Nat) : Tgt := fun v env => match v with
  | .tup xs => tgs is xs env
  | _ => none
section
variable (K : PySem.W.Frag) (C : Kx → Addr)
structure Chg (is : List Nat) (σ σ' : L2.St) : Prop where
  o : ∀ i : Nat, i ∉ is → σ'[i]? = σ[i]?
  l : σ'.length = σ.length
def rG (g : Tgt) (is : List Nat) : TG := fun x σ H Q => ∃ w env S v env', Sim K C w env S σ H ∧ Rep K C w.F w.ρ x v ∧ g v env = some env' ∧ ∀ σ', Sim K C w env' S σ' H → Chg is σ σ' → Q σ' H
def rGs (is : List Nat) : TGs := fun xs σ H Q => ∃ w env S vs env', Sim K C w env S σ H ∧ RepL K C w.F w.ρ xs vs ∧ tgs is vs env = some env' ∧ ∀ σ', Sim K C w env' S σ' H → Chg is σ σ' → Q σ' H
end
theorem _root_.L2.PG.imp {X : Cx} {tg : Expr} {t t' : TG} (h : PG X tg t) (hi : ∀ x σ H Q, t' x σ H Q → t x σ H Q) : PG X tg t' := ⟨fun pins s σ H v u Q I r q => h.run pins s σ H v u Q I r (hi _ _ _ _ q)⟩
theorem _root_.L2.PGs.imp {X : Cx} {tg : List Expr} {t t' : TGs} (h : PGs X tg t) (hi : ∀ x σ H Q, t' x σ H Q → t x σ H Q) : PGs X tg t' := ⟨fun pins s σ H v u Q I r q => h.run pins s σ H v u Q I r (hi _ _ _ _ q)⟩
section
variable {X : Cx} {C : Kx → Addr} {E : WX} {a b c e tg : Expr} {pos : Pos} {K : PySem.W.Frag} {w w' : Wd} {env env' : En} {S : Sto} {σ σ' : L2.St} {H : Hp}
theorem Chg.refl (is : List Nat) (σ : L2.St) : Chg is σ σ := ⟨fun _ _ => rfl, rfl⟩
theorem Chg.trans {is js ks : List Nat} {σ σ1 σ2 : L2.St} (a : Chg is σ σ1) (b : Chg js σ1 σ2) (h1 : ∀ i ∈ is, i ∈ ks) (h2 : ∀ i ∈ js, i ∈ ks) : Chg ks σ σ2 :=
  ⟨fun i hi => (b.o i fun h => hi (h2 i h)).trans (a.o i fun h => hi (h1 i h)), b.l.trans a.l⟩
theorem Chg.set {i : Nat} {x : Option V} : Chg [i] σ (σ.set i x) := ⟨fun j hj => List.getElem?_set_ne (by simpa using fun h : i = j => hj (by simp [h])), by simp⟩
theorem setV_some {i : Nat} {x : SV} (h : setV i x env = some env') : env' = env.set i x ∧ i < env.length := by
  unfold setV at h
  cases q : env[i]? with
  | none => rw [q] at h; cases h
  | some y =>
    rw [q] at h
    have hi := (List.getElem?_eq_some_iff.mp q).1
    cases y <;> cases h <;> exact ⟨rfl, hi⟩
/-- a slot gets what fits -/
theorem Sim.put (s : Sim K C w env S σ H) {i : Nat} {x : SV} {u : Option V} (h : setV i x env = some env') (r : SlotR K C w H i (some u) x)
    (d : ∀ (j : Nat) (y : SV) (a : Addr), j ≠ i → env[j]? = some y → y.mine = true → σ[j]? = some (some (.ref a)) → x.mine = true → u ≠ some (.ref a)) : Sim K C w env' S (σ.set i u) H := by
  obtain ⟨rfl, hi⟩ := setV_some h
  have hi' : i < σ.length := Nat.lt_of_lt_of_le hi s.le
  refine ⟨s.f, s.b, s.fb, s.lb, by simpa using s.le, fun j y e => ?_, fun j k x' y a e1 e2 m1 m2 q1 q2 => ?_, s.ln, s.nd, s.cl⟩
  · by_cases hj : j = i
    · subst hj
      rw [List.getElem?_set_self hi] at e
      cases e
      rw [List.getElem?_set_self hi']
      exact r
    · rw [List.getElem?_set_ne (Ne.symm hj)] at e ⊢
      exact s.sl j y e
  · by_cases hj : j = i
    · by_cases hk : k = i
      · rw [hj, hk]
      · subst hj
        rw [List.getElem?_set_self hi] at e1
        cases e1
        rw [List.getElem?_set_self hi'] at q1
        rw [List.getElem?_set_ne (Ne.symm hk)] at e2 q2
        exact absurd (Option.some.inj q1) (d k y a hk e2 m2 q2 m1)
    · by_cases hk : k = i
      · subst hk
        rw [List.getElem?_set_self hi] at e2
        cases e2
        rw [List.getElem?_set_self hi'] at q2
        rw [List.getElem?_set_ne (Ne.symm hj)] at e1 q1
        exact absurd (Option.some.inj q2) (d j x' a hj e1 m1 q1 m2)
      · rw [List.getElem?_set_ne (Ne.symm hj)] at e1 q1
        rw [List.getElem?_set_ne (Ne.symm hk)] at e2 q2
        exact s.od j k x' y a e1 e2 m1 m2 q1 q2
theorem Sim.putV (s : Sim K C w env S σ H) {i : Nat} {v : PV} {u : V} (h : setV i (.v v) env = some env') (r : Rep K C w.F w.ρ u v) : Sim K C w env' S (σ.set i (some u)) H :=
  s.put h ⟨u, rfl, r⟩ fun _ _ _ _ _ _ _ q => nomatch q
theorem g_name {i : Nat} {x : Str} (hN : X.N.Nodup) (hi : X.N[i]? = some x) (hx : Loc X.env.scope x) (hf : X.fn x = true ∨ X.env.scope.names.lookup x = some .local := by first | exact .inl rfl | exact .inr rfl | assumption) : PG X (.Name x pos) (rG X.K C (tgN i) [i]) := by
  refine (pg_name hN hi hx hf).imp ?_
  rintro x σ H Q ⟨w, env, S, v, env', s, r, h, q⟩
  exact q _ (s.putV h r) Chg.set
theorem gs_nil : PGs X [] (rGs X.K C []) := by
  refine pgs_nil.imp ?_
  rintro x σ H Q ⟨w, env, S, v, env', s, r, h, q⟩
  cases r with
  | nil => cases h; exact ⟨rfl, q _ s (Chg.refl _ _)⟩
  | cons _ _ => cases h
theorem gs_cons {i : Nat} {is : List Nat} {x : Str} {es : List Expr} (hN : X.N.Nodup) (hi : X.N[i]? = some x) (hx : Loc X.env.scope x) (h2 : PGs X es (rGs X.K C is)) (hf : X.fn x = true ∨ X.env.scope.names.lookup x = some .local := by first | exact .inl rfl | exact .inr rfl | assumption)
    (hs : (assignEach (.Name x pos :: es) X.env).map (·.2) = assign (.Name x pos) X.env :: (assignEach es X.env).map (·.2) := by rfl) : PGs X (.Name x pos :: es) (rGs X.K C (i :: is)) := by
  refine (pgs_cons (pg_name hN hi hx hf) h2 hs).imp ?_
  rintro xs σ H Q ⟨w, env, S, vs, env', s, r, h, q⟩
  cases r with
  | nil => cases h
  | cons r1 r2 =>
    unfold tgs at h
    obtain ⟨e1, h1, h3⟩ := Option.bind_eq_some_iff.mp h
    exact ⟨_, _, rfl, w, e1, S, _, env', s.putV h1 r1, r2, h3, fun σ' s' ch => q σ' s' (Chg.set.trans ch (by simp) (by intro j hj; simp [hj]))⟩
theorem tgs_len : ∀ {is : List Nat} {vs : List PV} {env env' : En}, tgs is vs env = some env' → vs.length = is.length
  | [], [], _, _, _ => rfl
  | [], _ :: _, _, _, h => by cases h
  | _ :: _, [], _, _, h => by cases h
  | i :: is, v :: vs, env, env', h => by
    unfold tgs at h
    obtain ⟨e1, _, h3⟩ := Option.bind_eq_some_iff.mp h
    simp [tgs_len h3]
theorem g_tup {es : List Expr} {k : Nat} {is : List Nat} {n : Nat} (hc : X.calm = true) (h : PGs X es (rGs X.K C is)) (hl : is.length = n := by rfl)
    (hn : (assignEach es X.env).length = n := by rfl) (hst : (assignEach es X.env).findIdx? (·.1) = none := by rfl) : PG X (.Tuple es k pos) (rG X.K C (tgT is) is) := by
  refine (pg_tup hc h hn hst).imp ?_
  rintro x σ H Q ⟨w, env, S, v, env', s, r, h, q⟩
  unfold tgT at h
  cases v with
  | tup xs =>
    cases r with
    | tup sq rl => exact ⟨_, _, rfl, SqT.le s.f sq, by rw [rl.length, tgs_len h, hl], w, env, S, xs, env', s, rl, h, q⟩
  | _ => cases h

/-- a target that stores to these slots alone -/
def TgOk (g : Tgt) (is : List Nat) : Prop := ∀ v env env', g v env = some env' → env'.length = env.length ∧ ∀ j, j ∉ is → env'[j]? = env[j]?
theorem tg_n (i : Nat) : TgOk (tgN i) [i] := fun v env env' h => by
  obtain ⟨rfl, hi⟩ := setV_some h
  exact ⟨by simp, fun j hj => List.getElem?_set_ne (by simpa using fun h : i = j => hj (by simp [h]))⟩
theorem tg_s : ∀ (is : List Nat) (vs : List PV) (env env' : En), tgs is vs env = some env' → env'.length = env.length ∧ ∀ j, j ∉ is → env'[j]? = env[j]?
  | [], [], _, _, h => by cases h; exact ⟨rfl, fun _ _ => rfl⟩
  | [], _ :: _, _, _, h => by cases h
  | _ :: _, [], _, _, h => by cases h
  | i :: is, v :: vs, env, env', h => by
    unfold tgs at h
    obtain ⟨e1, h1, h3⟩ := Option.bind_eq_some_iff.mp h
    obtain ⟨l, o⟩ := tg_s is vs e1 env' h3
    obtain ⟨rfl, hi⟩ := setV_some h1
    refine ⟨by simpa using l, fun j hj => ?_⟩
    rw [o j fun q => hj (by simp [q])]
    exact List.getElem?_set_ne fun h : i = j => hj (by simp [h])
theorem tg_t (is : List Nat) : TgOk (tgT is) is := fun v env env' h => by
  unfold tgT at h
  cases v with
  | tup xs => exact tg_s is xs env env' h
  | _ => cases h

/-! ### list comprehensions -/
def wipeE : List Nat → En → Option En
  | [], env => some env
  | i :: is, env => match env[i]? with
    | some (.own _) => none
    | some (.lk _) => none
    | _ => (wipeE is env).map fun e => e.set i .un
def lcLoop (g : Tgt) (c e : Ex) (env0 : En) : List PV → Sto → R (List PV)
  | [], S => .ok [] S
  | x :: xs, S => match g x env0 with
    | none => .bad
    | some env1 => (c env1 S).bind fun b S => match b with
      | .bl true => (e env1 S).bind fun y S => (lcLoop g c e env0 xs S).bind fun ys S => .ok (y :: ys) S
      | .bl false => lcLoop g c e env0 xs S
      | _ => .bad
def R.noex {α : Type} : R α → R α
  | .ok a S => .ok a S
  | _ => .bad
def eLC (it : Itx) (vs : List Nat) (g : Tgt) (c e : Ex) : Ex := fun env S => (it env S).bind fun xs S => match wipeE vs env with
  | none => .bad
  | some env0 => if xs.length ≤ 1000000 then ((lcLoop g c e env0 xs S).noex).bind fun ys S => .ok (.lst ys) S else .bad
def eYes : Ex := fun _ S => .ok (.bl true) S

theorem wipe_get (σ : L2.St) (i : Nat) : ∀ vs : List Nat, (wipe σ vs)[i]? = if i ∈ vs then (if i < σ.length then some none else none) else σ[i]?
  | [] => by simp [wipe]
  | v :: vs => by
    unfold wipe
    by_cases hv : v = i
    · subst hv
      by_cases hl : v < σ.length
      · rw [List.getElem?_set_self (by rw [wipe_length]; exact hl)]
        simp [hl]
      · rw [List.getElem?_eq_none (by simp [wipe_length]; omega)]
        simp [hl]
    · rw [List.getElem?_set_ne hv, wipe_get σ i vs]
      have e : i ≠ v := fun q => hv q.symm
      simp [e]
theorem Chg.wipe {is vs : List Nat} (h : Chg is (L2.wipe σ vs) σ') (hs : ∀ i ∈ is, i ∈ vs) : L2.wipe σ' vs = L2.wipe σ vs := by
  have hl : σ'.length = σ.length := by rw [h.l, wipe_length]
  refine List.ext_getElem? fun i => ?_
  rw [wipe_get, wipe_get, hl]
  by_cases hi : i ∈ vs
  · simp [hi]
  · rw [if_neg hi, if_neg hi, h.o i fun q => hi (hs i q), wipe_get, if_neg hi]
theorem wipeE_get : ∀ {vs : List Nat} {env env' : En}, wipeE vs env = some env' → env'.length = env.length ∧ ∀ i x, env'[i]? = some x → (x = .un ∧ i ∈ vs) ∨ (env[i]? = some x ∧ i ∉ vs)
  | [], env, env', h => by cases h; exact ⟨rfl, fun i x e => .inr ⟨e, by simp⟩⟩
  | v :: vs, env, env', h => by
    unfold wipeE at h
    have h' : (wipeE vs env).map (fun e => e.set v .un) = some env' := by
      cases q : env[v]? with
      | none => rw [q] at h; exact h
      | some y => rw [q] at h; cases y <;> first | exact h | cases h
    obtain ⟨e1, h1, rfl⟩ := Option.map_eq_some_iff.mp h'
    obtain ⟨hl, hg⟩ := wipeE_get h1
    refine ⟨by simp [hl], fun i x e => ?_⟩
    by_cases hv : v = i
    · subst hv
      by_cases hb : v < e1.length
      · rw [List.getElem?_set_self hb] at e; cases e; exact .inl ⟨rfl, by simp⟩
      · rw [List.getElem?_eq_none (by simpa using hb)] at e; cases e
    · rw [List.getElem?_set_ne hv] at e
      have hv' : i ≠ v := fun q => hv q.symm
      rcases hg i x e with ⟨a, b⟩ | ⟨a, b⟩
      · exact .inl ⟨a, by simp [b]⟩
      · exact .inr ⟨a, by simp [hv', b]⟩
/-- what was wiped was plain -/
theorem wipeE_plain : ∀ {vs : List Nat} {env env' : En}, wipeE vs env = some env' → ∀ i ∈ vs, ∀ x, env[i]? = some x → x.mine = false ∧ ∀ y, x ≠ .lk y
  | [], _, _, _, _, hi, _, _ => nomatch hi
  | v :: vs, env, env', h, i, hi, x, e => by
    unfold wipeE at h
    rcases List.mem_cons.mp hi with rfl | hi
    · rw [e] at h
      cases x with
      | un => exact ⟨rfl, fun _ q => nomatch q⟩
      | v y => exact ⟨rfl, fun _ q => nomatch q⟩
      | own y => cases h
      | lk y => cases h
    · have h' : ∃ e1, wipeE vs env = some e1 := by
        have h' : (wipeE vs env).map (fun e => e.set v .un) = some env' := by
          cases q : env[v]? with
          | none => rw [q] at h; exact h
          | some y => rw [q] at h; cases y <;> first | exact h | cases h
        obtain ⟨e1, h1, _⟩ := Option.map_eq_some_iff.mp h'
        exact ⟨e1, h1⟩
      obtain ⟨e1, h1⟩ := h'
      exact wipeE_plain h1 i hi x e
/-- into a block: the block's own slots forgotten -/
theorem Sim.wipe (s : Sim K C w env S σ H) {vs : List Nat} {env0 : En} (h : wipeE vs env = some env0) : Sim K C w env0 S (L2.wipe σ vs) H := by
  obtain ⟨hl, hg⟩ := wipeE_get h
  refine ⟨s.f, s.b, s.fb, s.lb, by rw [hl, wipe_length]; exact s.le, fun i x e => ?_, fun i j x y a e1 e2 m1 m2 q1 q2 => ?_, s.ln, s.nd, s.cl⟩
  · rcases hg i x e with ⟨rfl, _⟩ | ⟨h1, h2⟩
    · trivial
    · rw [wipe_get, if_neg h2]; exact s.sl i x h1
  · have out : ∀ i x, env0[i]? = some x → x.mine = true → env[i]? = some x ∧ i ∉ vs := fun i x e m => by
      rcases hg i x e with ⟨rfl, _⟩ | z
      · cases m
      · exact z
    obtain ⟨a1, b1⟩ := out i x e1 m1
    obtain ⟨a2, b2⟩ := out j y e2 m2
    rw [wipe_get, if_neg b1] at q1
    rw [wipe_get, if_neg b2] at q2
    exact s.od i j x y a a1 a2 m1 m2 q1 q2
/-- from a turn of a block back to its head -/
theorem Sim.back {env0 env1 : En} {σ2 : L2.St} {vs is : List Nat} {e0 : En} (hw : wipeE vs e0 = some env0) (s : Sim K C w env1 S σ2 H) (hl : env1.length = env0.length) (he : ∀ j, j ∉ is → env1[j]? = env0[j]?) (ch : Chg is (L2.wipe σ vs) σ2) (his : ∀ i ∈ is, i ∈ vs) : Sim K C w env0 S (L2.wipe σ vs) H := by
  have pl : ∀ i x, env0[i]? = some x → (x = .un) ∨ (env1[i]? = some x ∧ i ∉ vs) := fun i x e => by
    rcases (wipeE_get hw).2 i x e with ⟨h, _⟩ | ⟨h1, h2⟩
    · exact .inl h
    · exact .inr ⟨by rw [he i fun q => h2 (his i q)]; exact e, h2⟩
  have es : ∀ i, i ∉ vs → (L2.wipe σ vs)[i]? = σ2[i]? := fun i h => (ch.o i fun q => h (his i q)).symm
  refine ⟨s.f, s.b, s.fb, s.lb, by rw [← hl, ← ch.l]; exact s.le, fun i x e => ?_, fun i j x y a e1 e2 m1 m2 q1 q2 => ?_, s.ln, s.nd, s.cl⟩
  · rcases pl i x e with rfl | ⟨h1, h2⟩
    · trivial
    · rw [es i h2]; exact s.sl i x h1
  · rcases pl i x e1 with rfl | ⟨h1, h2⟩
    · cases m1
    · rcases pl j y e2 with rfl | ⟨h3, h4⟩
      · cases m2
      · exact s.od i j x y a h1 h3 m1 m2 (by rw [← es i h2]; exact q1) (by rw [← es j h4]; exact q2)
/-- out of a block -/
theorem Sim.unwipe {S' : Sto} {H' : Hp} (s : Sim K C w env S σ H) (le : w.le w') {vs : List Nat} {env0 : En} (h : wipeE vs env = some env0) (s' : Sim K C w' env0 S' (L2.wipe σ vs) H') : Sim K C w' env S' σ H' := by
  obtain ⟨hl, hg⟩ := wipeE_get h
  have ge : ∀ i x, env[i]? = some x → i ∉ vs → env0[i]? = some x := fun i x e hi => by
    have hlt : i < env0.length := by rw [hl]; exact (List.getElem?_eq_some_iff.mp e).1
    rcases hg i _ (List.getElem?_eq_getElem hlt) with ⟨_, z⟩ | ⟨z, _⟩
    · exact absurd z hi
    · rw [List.getElem?_eq_getElem hlt, ← z]; exact e
  refine ⟨s'.f, s'.b, s'.fb, s'.lb, s.le, fun i x e => ?_, fun i j x y a e1 e2 m1 m2 q1 q2 => ?_, s'.ln, s'.nd, s'.cl⟩
  · by_cases hi : i ∈ vs
    · obtain ⟨p1, p2⟩ := wipeE_plain h i hi x e
      have z := s.sl i x e
      cases x with
      | un => trivial
      | v y => obtain ⟨u, h1, h2⟩ := z; exact ⟨u, h1, RepW.up le h2⟩
      | own y => cases p1
      | lk y => exact absurd rfl (p2 y)
    · have z := s'.sl i x (ge i x e hi)
      rw [wipe_get, if_neg hi] at z
      exact z
  · have out : ∀ i x, env[i]? = some x → x.mine = true → i ∉ vs := fun i x e m hi => by
      rw [(wipeE_plain h i hi x e).1] at m; cases m
    have b1 := out i x e1 m1
    have b2 := out j y e2 m2
    refine s'.od i j x y a (ge i x e1 b1) (ge j y e2 b2) m1 m2 ?_ ?_
    · rw [wipe_get, if_neg b1]; exact q1
    · rw [wipe_get, if_neg b2]; exact q2
end
end Hw

set_option maxRecDepth 100000
set_option maxHeartbeats 4000000
namespace Hw
open PySem PySem.Spec L2
abbrev Wd.prot (w : Wd) (p : Addr) (o : HO) : Wd := { w with B := upd w.B p o }
section
variable {X : Cx} {C : Kx → Addr} {E : WX} {a b c e tg : Expr} {pos : Pos} {K : PySem.W.Frag} {w w' : Wd} {env env' : En} {S S' : Sto} {σ σ' : L2.St} {H H' : Hp} {p : Addr} {o : HO}
theorem ObjR.off {q : Addr} {x : PV} (r : ObjR K C w H q x) (h : q ≠ p) (o : HO) : ObjR K C w (upd H p o) q x := r.up (Wd.le.refl _) fun _ e => by rw [upd_ne h]; exact e
theorem ObjR.same {w' : Wd} (hf : w'.F = w.F) (hr : w'.ρ = w.ρ) {q : Addr} {x : PV} (r : ObjR K C w H q x) : ObjR K C w' H q x := by
  cases x with
  | lst xs => obtain ⟨vs, e, r⟩ := r; exact ⟨vs, e, by rw [hf, hr]; exact r⟩
  | dI xs => obtain ⟨vs, e, r⟩ := r; exact ⟨vs, e, by rw [hf, hr]; exact r⟩
  | dT xs => obtain ⟨vs, e, r⟩ := r; exact ⟨vs, e, by rw [hf, hr]; exact r⟩
  | _ => exact r.elim
theorem LkR.same {w' : Wd} (hf : w'.F = w.F) (hr : w'.ρ = w.ρ) {q : Addr} {x : PV} {B B' : Hp} (hb : B' q = B q) (r : LkR K C w B q x) : LkR K C w' B' q x := by
  cases x with
  | lst xs => obtain ⟨vs, e, r⟩ := r; exact ⟨vs, hb.trans e, by rw [hf, hr]; exact r⟩
  | dI xs => obtain ⟨o, vs, e, r⟩ := r; exact ⟨o, vs, hb.trans e, by rw [hf, hr]; exact r⟩
  | dT xs => obtain ⟨o, vs, e, r⟩ := r; exact ⟨o, vs, hb.trans e, by rw [hf, hr]; exact r⟩
  | _ => exact r.elim
/-- something else may change -/
theorem Sim.free (s : Sim K C w env S σ H) (fr : Fr1 w p) (nm : NotMine env σ p) (o : HO) : Sim K C w env S σ (upd H p o) := by
  refine ⟨fun q u e => ?_, fun q u e => ?_, s.fb, s.lb, s.le, fun i x e => ?_, s.od, s.ln, s.nd, fun n c q e1 e2 => ?_⟩
  · rw [upd_ne (fun h => by subst h; rw [fr.f] at e; cases e)]; exact s.f _ _ e
  · rw [upd_ne (fun h => by subst h; rw [fr.b] at e; cases e)]; exact s.b _ _ e
  · have z := s.sl i x e
    cases x with
    | own y =>
      obtain ⟨q, h1, h2, h3⟩ := z
      exact ⟨q, h1, h2, h3.off (fun h => nm i _ e rfl (by rw [← h]; exact h1)) o⟩
    | _ => exact z
  · obtain ⟨h1, h2, h3⟩ := s.cl n c q e1 e2
    exact ⟨h1, h2, h3.off (fun h => fr.r (by rw [← h]; exact List.mem_of_getElem? e2)) o⟩
theorem prot_same : (w.prot p o).B p = some o := upd_same
theorem prot_ne {q : Addr} (h : q ≠ p) : (w.prot p o).B q = w.B q := upd_ne h
theorem Sim.prot (s : Sim K C w env S σ H) (fr : Fr1 w p) (nm : NotMine env σ p) (e : H p = some o) : Sim K C (w.prot p o) env S σ H := by
  have ne : ∀ {q : Addr} {u : HO}, w.B q = some u → q ≠ p := fun {q u} e h => by rw [h, fr.b] at e; cases e
  have bu : ∀ q, (w.prot p o).B q = if q = p then some o else w.B q := fun q => rfl
  refine ⟨s.f, fun q u z => ?_, fun q u z => ?_, fun i q z => ?_, s.le, fun i x z => ?_, s.od, s.ln, s.nd, fun n c q e1 e2 => ?_⟩
  · by_cases h : q = p
    · subst h; rw [prot_same] at z; rw [← z]; exact e
    · rw [prot_ne h] at z; exact s.b _ _ z
  · by_cases h : q = p
    · subst h; exact .inl fr.f
    · rw [prot_ne h] at z; exact s.fb _ _ z
  · by_cases h : q = p
    · subst h; rw [prot_same]; simp
    · rw [prot_ne h]; exact s.lb i q z
  · have z0 := z
    have z := s.sl i x z
    cases x with
    | own y =>
      obtain ⟨q, h1, h2, h3⟩ := z
      exact ⟨q, h1, ⟨h2.f, by rw [prot_ne (fun h => nm i _ z0 rfl (by rw [← h]; exact h1))]; exact h2.b, h2.r⟩, h3.same rfl rfl⟩
    | lk y =>
      obtain ⟨q, h0, h1, h2⟩ := z
      refine ⟨q, h0, h1, h2.same rfl rfl (prot_ne fun h => ?_)⟩
      obtain ⟨u, hu⟩ := h2.there
      exact ne hu h
    | _ => exact z
  · obtain ⟨h1, h2, h3⟩ := s.cl n c q e1 e2
    exact ⟨h1, by rw [prot_ne (fun h => fr.r (by rw [← h]; exact List.mem_of_getElem? e2))]; exact h2, h3.same rfl rfl⟩
theorem Sim.unprot (s : Sim K C (w.prot p o) env S σ H) (hb : w.B p = none) (ho : ∀ xs, o ≠ .tup xs) (hL : ∀ i, w.L i ≠ some p) : Sim K C w env S σ H ∧ Fr1 w p ∧ NotMine env σ p ∧ H p = some o := by
  have hp : H p = some o := s.b p o upd_same
  have fp : w.F p = none := by
    rcases s.fb p o upd_same with h | ⟨xs, h⟩
    · exact h
    · exact absurd h (ho xs)
  have ne : ∀ {q : Addr} {u : HO}, w.B q = some u → q ≠ p := fun {q u} e h => by rw [h, hb] at e; cases e
  have bs : ∀ {q : Addr}, (w.prot p o).B q = none → w.B q = none := fun {q} e => by
    by_cases h : q = p
    · subst h; exact hb
    · rw [prot_ne h] at e; exact e
  refine ⟨⟨s.f, fun q u z => s.b q u (by rw [prot_ne (ne z)]; exact z), fun q u z => s.fb q u (by rw [prot_ne (ne z)]; exact z), fun i q z => ?_, s.le, fun i x z => ?_, s.od, s.ln, s.nd, fun n c q e1 e2 => ?_⟩, ⟨fp, hb, fun hm => ?_⟩, fun i x z m q => ?_, hp⟩
  · have h : q ≠ p := fun h => hL i (by rw [← h]; exact z)
    have z2 := s.lb i q z
    rw [prot_ne h] at z2
    exact z2
  · have z := s.sl i x z
    cases x with
    | own y =>
      obtain ⟨q, h1, h2, h3⟩ := z
      exact ⟨q, h1, ⟨h2.f, bs h2.b, h2.r⟩, h3.same rfl rfl⟩
    | lk y =>
      obtain ⟨q, h0, h1, h2⟩ := z
      exact ⟨q, h0, h1, h2.same rfl rfl (prot_ne fun h => hL i (by rw [← h]; exact h0)).symm⟩
    | _ => exact z
  · obtain ⟨h1, h2, h3⟩ := s.cl n c q e1 e2
    exact ⟨h1, bs h2, h3.same rfl rfl⟩
  · obtain ⟨n, hn⟩ := List.getElem?_of_mem hm
    have hlt := (List.getElem?_eq_some_iff.mp hn).1
    rw [s.ln] at hlt
    obtain ⟨_, h2, _⟩ := s.cl n _ p (List.getElem?_eq_getElem hlt) hn
    rw [prot_same] at h2; cases h2
  · have z := s.sl i x z
    cases x with
    | own y =>
      obtain ⟨q', h1, h2, h3⟩ := z
      rw [q] at h1
      have h1 : p = q' := by injection h1 with h1; injection h1 with h1; injection h1
      subst h1
      have h4 := h2.b
      rw [prot_same] at h4; cases h4
    | _ => cases m
theorem Wd.le.unprot {w : Wd} {o' : HO} (le : (w.prot p o).le w') : ∃ w1, w.le w1 ∧ w' = w1.prot p o ∧ w1.B = w.B ∧ w1.L = w.L ∧ w1.F = w'.F ∧ w1.ρ = w'.ρ := by
  refine ⟨{ w' with B := w.B }, ⟨le.f, rfl, le.l, le.r⟩, ?_, rfl, le.l, rfl, rfl⟩
  have e := le.b
  cases w'
  simp only at e
  subst e
  rfl
theorem lc_rd {E' : WX} {it : Itx} {g : Tgt} {is : List Nat} {dc de : Ex} {vs : List Nat} (htg : TgOk g is) (his : ∀ i ∈ is, i ∈ vs) {σ : L2.St} {H : Hp} {Q : VK} (q : rN X.K C E (eLC it vs g dc de) σ H Q) :
    tLc (rIt X.K C E it) (rG X.K C g is) (rT X.K C E' dc) (rE X.K C E' de) vs σ H Q := by
  obtain ⟨w, env, S, s, h⟩ := q
  unfold eLC at h
  refine ⟨w, env, S, s, h.bind.mono fun xs S1 w1 H1 le1 s1 h1 J fd D hD => ?_⟩
  cases hw : wipeE vs env with
  | none => rw [hw] at h1; exact h1.elim
  | some env0 =>
    rw [hw] at h1
    have h1 : Wp X.K C E w1 env σ (if xs.length ≤ 1000000 then ((lcLoop g dc de env0 xs S1).noex).bind fun ys S => R.ok (PV.lst ys) S else R.bad) (fun v _ w' H' => ∀ p, Fr1 w' p → NotMine env σ p → ObjR X.K C w' H' p v → Q (.ref p) H') := h1
    split at h1
    rotate_left
    · exact h1.elim
    rename_i hlen
    cases hr : lcLoop g dc de env0 xs S1 with
    | ex c S' => rw [hr] at h1; exact h1.elim
    | bad => rw [hr] at h1; exact h1.elim
    | ok ys Sf =>
      rw [hr] at h1
      have h1 : ∀ w' H', w1.le w' → Sim X.K C w' env Sf σ H' → ∀ p, Fr1 w' p → NotMine env σ p → ObjR X.K C w' H' p (.lst ys) → Q (.ref p) H' := h1
      have hLp : ∀ i, w1.L i ≠ some D := fun i z => by
        have q := s1.lb i D z
        cases hb : w1.B D with
        | none => exact q hb
        | some u => rw [s1.b _ _ hb] at hD; cases hD
      -- the invariant
      refine ⟨fun i m H => m = xs.length - i ∧ i ≤ xs.length ∧ ∃ w2 S2 acc us ys2, w1.le w2 ∧ Sim X.K C (w2.prot D (.lst acc)) env0 S2 (L2.wipe σ vs) H ∧ RepL X.K C w2.F w2.ρ acc us ∧ w2.B D = none ∧ acc.length ≤ i ∧
        lcLoop g dc de env0 (xs.drop i) S2 = .ok ys2 Sf ∧ us ++ ys2 = ys, ⟨_, rfl, Nat.zero_le _, w1, S1, [], [], ys, Wd.le.refl _, ?_, .nil, s1.b.gone hD, Nat.zero_le _, hr, rfl⟩, ?_⟩
      · obtain ⟨s2, fr, nm⟩ := s1.loose (o := .lst []) hD
        exact ((s2.wipe hw).prot fr (fun i x e m => by
          rcases (wipeE_get hw).2 i x e with ⟨rfl, _⟩ | ⟨h1, h2⟩
          · cases m
          · rw [wipe_get, if_neg h2]; exact nm i x h1 m) upd_same)
      rintro i m H2 ⟨rfl, hil, w2, S2, acc, us, ys2, le2, s2, rl, hB, hal, hlc, hys⟩
      have lep : w1.le w2 := le2
      have fdi := fd (w2.prot D (.lst acc)) H2
      have hL2 : ∀ i, w2.L i ≠ some D := fun i => by rw [le2.l]; exact hLp i
      by_cases hlt : i < xs.length
      · -- a turn
        have hx : xs[i]? = some xs[i] := List.getElem?_eq_getElem hlt
        have hdrop : xs.drop i = xs[i] :: xs.drop (i + 1) := List.drop_eq_getElem_cons hlt
        rw [hdrop] at hlc
        unfold lcLoop at hlc
        have fd2 : J.go i H2 ∧ ∀ x H3, J.yld i H2 x H3 → ∃ F3, Grow w2.F H2 F3 H3 ∧ Rep X.K C F3 w2.ρ x xs[i] :=
          ((fd.up le2) w2 H2 (Wd.le.refl _) s2.f (fun q u z => s2.b q u (by rw [prot_ne (fun h => by rw [h, hB] at z; cases z)]; exact z))).1 i _ hx
        refine .inr ⟨fd2.1, fun H' => (fun i m H => m = xs.length - i ∧ i ≤ xs.length ∧ ∃ w2 S2 acc us ys2, w1.le w2 ∧ Sim X.K C (w2.prot D (.lst acc)) env0 S2 (L2.wipe σ vs) H ∧ RepL X.K C w2.F w2.ρ acc us ∧ w2.B D = none ∧ acc.length ≤ i ∧
          lcLoop g dc de env0 (xs.drop i) S2 = .ok ys2 Sf ∧ us ++ ys2 = ys) (i + 1) (xs.length - (i + 1)) H', fun H' z => ⟨_, by omega, z⟩, fun x H3 hy => ?_⟩
        obtain ⟨F3, gr, rx⟩ := fd2.2 x H3 hy
        obtain ⟨s3, le3⟩ := s2.grow gr
        cases hgx : g xs[i] env0 with
        | none => rw [hgx] at hlc; cases hlc
        | some env1 =>
          rw [hgx] at hlc
          dsimp only at hlc
          refine ⟨_, env0, S2, xs[i], env1, s3, rx, hgx, fun σ2 s4 ch => ⟨ch.wipe his, ?_⟩⟩
          refine ⟨_, env1, S2, s4, ?_⟩
          cases hcv : dc env1 S2 with
          | ex c S' => rw [hcv] at hlc; cases hlc
          | bad => rw [hcv] at hlc; cases hlc
          | ok bv S5 =>
            rw [hcv] at hlc
            intro w5 H5 le5 s5
            -- back from the turn to the block's head
            have back : ∀ (w6 : Wd) (S6 : Sto) (H6 : Hp), ({ w2.prot D (.lst acc) with F := F3 } : Wd).le w6 → Sim X.K C w6 env1 S6 σ2 H6 → ∃ w7, w2.le w7 ∧ w6 = w7.prot D (.lst acc) ∧ w7.B = w2.B ∧ Sim X.K C (w7.prot D (.lst acc)) env0 S6 (L2.wipe σ vs) H6 := fun w6 S6 H6 le6 s6 => by
              obtain ⟨w7, l7, e7, b7, _, f7, r7⟩ := Wd.le.unprot (o' := .lst acc) (le3.trans le6)
              obtain ⟨tl, to⟩ := htg _ _ _ hgx
              refine ⟨w7, l7, e7, b7, ?_⟩
              rw [← e7]
              exact Sim.back hw s6 tl to ch his
            cases bv with
            | bl k =>
              refine ⟨k, rfl, ?_⟩
              cases k with
              | false =>
                rw [if_neg Bool.false_ne_true]
                obtain ⟨w7, l7, e7, b7, s7⟩ := back w5 S5 H5 le5 s5
                exact ⟨rfl, hlt, w7, S5, acc, us, ys2, le2.trans l7, s7, RepL.le l7.f (fun _ _ e => l7.get e) rl, by rw [b7]; exact hB, by omega, hlc, hys⟩
              | true =>
                rw [if_pos rfl]
                have hlc : (de env1 S5).bind (fun y S => (lcLoop g dc de env0 (xs.drop (i + 1)) S).bind fun ys S => .ok (y :: ys) S) = .ok ys2 Sf := hlc
                refine ⟨w5, env1, S5, s5, ?_⟩
                cases hev : de env1 S5 with
                | ex c S' => rw [hev] at hlc; cases hlc
                | bad => rw [hev] at hlc; cases hlc
                | ok y S6 =>
                  rw [hev] at hlc
                  intro w6 H6 le6 s6 yv ry
                  obtain ⟨w7, l7, e7, b7, s7⟩ := back w6 S6 H6 (le5.trans le6) s6
                  have hB7 : w7.B D = none := by rw [b7]; exact hB
                  obtain ⟨s8, fr8, nm8, hp8⟩ := s7.unprot hB7 (fun _ z => nomatch z) (fun i => by rw [l7.l]; exact hL2 i)
                  refine ⟨acc, hp8, Nat.lt_of_le_of_lt (Nat.le_trans hal (Nat.le_of_lt (Nat.lt_of_lt_of_le hlt hlen))) (by decide), ?_⟩
                  have hlc : (lcLoop g dc de env0 (xs.drop (i + 1)) S6).bind (fun ys S => .ok (y :: ys) S) = .ok ys2 Sf := hlc
                  cases hr2 : lcLoop g dc de env0 (xs.drop (i + 1)) S6 with
                  | ex c S' => rw [hr2] at hlc; cases hlc
                  | bad => rw [hr2] at hlc; cases hlc
                  | ok ys3 Sg =>
                    rw [hr2] at hlc
                    have hlc : R.ok (y :: ys3) Sg = R.ok ys2 Sf := hlc
                    injection hlc with q1 q2
                    subst q2
                    subst q1
                    refine ⟨rfl, hlt, w7, S6, acc ++ [yv], us ++ [y], ys3, le2.trans l7, ?_, ?_, hB7, by rw [List.length_append]; show acc.length + 1 ≤ i + 1; omega, hr2, by rw [List.append_assoc]; exact hys⟩
                    · exact ((s8.free fr8 nm8 (.lst (acc ++ [yv]))).prot fr8 nm8 upd_same)
                    · refine (RepL.le l7.f (fun _ _ e => l7.get e) rl).append (.cons ?_ .nil)
                      rw [e7] at ry
                      exact ry
            | _ => cases hlc
      · have e : i = xs.length := by omega
        subst e
        rw [List.drop_length] at hlc
        cases hlc
        obtain ⟨s3, fr, nm, hp⟩ := s2.unprot hB (fun _ z => nomatch z) hL2
        have s4 := s1.unwipe le2 hw s3
        refine .inl ⟨((fd.up le2) w2 H2 (Wd.le.refl _) s3.f s3.b).2, h1 w2 H2 le2 s4 D fr (fun i x z m q => ?_) ⟨acc, hp, by rw [← hys, List.append_nil]; exact rl⟩⟩
        have hi : i ∉ vs := fun hi => by
          rw [(wipeE_plain hw i hi x z).1] at m; cases m
        have hlt' : i < env0.length := by rw [(wipeE_get hw).1]; exact (List.getElem?_eq_some_iff.mp z).1
        rcases (wipeE_get hw).2 i _ (List.getElem?_eq_getElem hlt') with ⟨_, y⟩ | ⟨y, _⟩
        · exact hi y
        · refine nm i x (by rw [List.getElem?_eq_getElem hlt', ← y]; exact z) m ?_
          rw [wipe_get, if_neg hi]; exact q
/-- .. the new object -/
theorem h_lcN {E' : WX} {elt iter : Expr} {ifs : List Expr} {scope : Scope} {own : List (Str × Nat)} {it : Itx} {g : Tgt} {is : List Nat} {dc de : Ex} (hc : X.calm = true) (hN : X.N.Nodup) (hi : PI X tg iter (rIt X.K C E it)) (ok : BlkOk X.N X.env.scope scope own)
    (hg : ∀ (s : Shared) (H : Hp) (Ca : Addr) (cl : List (Str × Addr)) (fp : List Addr), PG (X.blk s H scope (compEnvC scope cl Ca X.env) fp) tg (rG X.K C g is)) (ht : ∀ (s : Shared) (H : Hp) (Ca : Addr) (cl : List (Str × Addr)) (fp : List Addr), PTs (X.blk s H scope (compEnvC scope cl Ca X.env) fp) ifs (rT X.K C E' dc))
    (he : ∀ (s : Shared) (H : Hp) (Ca : Addr) (cl : List (Str × Addr)) (fp : List Addr), PE (X.blk s H scope (compEnvC scope cl Ca X.env) fp) elt (rE X.K C E' de)) (htg : TgOk g is) (his : ∀ i ∈ is, i ∈ own.map (·.2) := by decide) (hs : ∀ x, foldedSetIterable iter X.env x = pure x := by intro _; rfl) :
    PE X (.ListComp elt [⟨tg, iter, ifs, 0⟩] scope pos) (rN X.K C E (eLC it (own.map (·.2)) g dc de)) :=
  (pe_lc hc hN hi ok hg ht he hs).imp fun σ H Q q => lc_rd htg his q
theorem h_lc {E' : WX} {elt iter : Expr} {ifs : List Expr} {scope : Scope} {own : List (Str × Nat)} {it : Itx} {g : Tgt} {is : List Nat} {dc de : Ex} (hc : X.calm = true) (hN : X.N.Nodup) (hi : PI X tg iter (rIt X.K C E it)) (ok : BlkOk X.N X.env.scope scope own)
    (hg : ∀ (s : Shared) (H : Hp) (Ca : Addr) (cl : List (Str × Addr)) (fp : List Addr), PG (X.blk s H scope (compEnvC scope cl Ca X.env) fp) tg (rG X.K C g is)) (ht : ∀ (s : Shared) (H : Hp) (Ca : Addr) (cl : List (Str × Addr)) (fp : List Addr), PTs (X.blk s H scope (compEnvC scope cl Ca X.env) fp) ifs (rT X.K C E' dc))
    (he : ∀ (s : Shared) (H : Hp) (Ca : Addr) (cl : List (Str × Addr)) (fp : List Addr), PE (X.blk s H scope (compEnvC scope cl Ca X.env) fp) elt (rE X.K C E' de)) (htg : TgOk g is) (his : ∀ i ∈ is, i ∈ own.map (·.2) := by decide) (hs : ∀ x, foldedSetIterable iter X.env x = pure x := by intro _; rfl) :
    PE X (.ListComp elt [⟨tg, iter, ifs, 0⟩] scope pos) (rE X.K C E (eLC it (own.map (·.2)) g dc de)) :=
  h_fz (h_lcN hc hN hi ok hg ht he htg his hs) fun env S v S' e => by
    unfold eLC at e
    cases h1 : it env S with
    | ex c S1 => rw [h1] at e; cases e
    | bad => rw [h1] at e; cases e
    | ok xs S1 =>
      rw [h1] at e
      simp only [R.bind] at e
      split at e
      · cases e
      · rename_i env0 _
        split at e
        · cases h2 : (lcLoop g dc de env0 xs S1).noex with
          | ex c S1 => rw [h2] at e; cases e
          | bad => rw [h2] at e; cases e
          | ok ys S2 => rw [h2] at e; cases e; exact ⟨_, rfl⟩
        · cases e
end
end Hw

set_option maxRecDepth 100000
set_option maxHeartbeats 4000000
namespace Hw
open PySem PySem.Spec L2

/-! ### statements -/
section
variable (K : PySem.W.Frag) (C : Kx → Addr) (E : WX)
def SpR (D : Ends) (w : Wd) : RS → Prop
  | .nx env' S' => ∀ w' H' σ', w.le w' → Sim K C w' env' S' σ' H' → D.nx σ' H'
  | .rt v S' => ∀ w' H' x, w.le w' → Sim K C w' [] S' [] H' → Rep K C w'.F w'.ρ x v → D.rt x H'
  | .bk env' S' => ∀ w' H' σ', w.le w' → Sim K C w' env' S' σ' H' → D.bk σ' H'
  | .ct env' S' => ∀ w' H' σ', w.le w' → Sim K C w' env' S' σ' H' → D.ct σ' H'
  | .ex c env' S' => ∀ w' H' σ', w.le w' → Sim K C w' env' S' σ' H' → E (.ref (C c)) none σ' H'
  | .bad => False
def rS (d : Sm) : TS := fun D σ H => ∃ w env S, Sim K C w env S σ H ∧ SpR K C E D w (d env S)
end
def sNil : Sm := fun env S => .nx env S
def sSeq (a b : Sm) : Sm := fun env S => match a env S with
  | .nx env S => b env S
  | r => r
def sEx (a : Ex) : Sm := fun env S => match a env S with
  | .ok _ S => .nx env S
  | .ex c S => .ex c env S
  | .bad => .bad
def sRet (a : Ex) : Sm := fun env S => match a env S with
  | .ok v S => .rt v S
  | .ex c S => .ex c env S
  | .bad => .bad
def sPut (g : Tgt) (a : Ex) : Sm := fun env S => match a env S with
  | .ok v S => match g v env with
    | some env => .nx env S
    | none => .bad
  | .ex c S => .ex c env S
  | .bad => .bad
def sOwn (i : Nat) (a : Ex) : Sm := fun env S => match a env S with
  | .ok v S => match setV i (.own v) env with
    | some env => .nx env S
    | none => .bad
  | .ex c S => .ex c env S
  | .bad => .bad
def sIf (c : Ex) (a b : Sm) : Sm := fun env S => match c env S with
  | .ok (.bl true) S => a env S
  | .ok (.bl false) S => b env S
  | .ok _ _ => .bad
  | .ex c S => .ex c env S
  | .bad => .bad
def forLoop (g : Tgt) (body : Sm) : List PV → En → Sto → RS
  | [], env, S => .nx env S
  | x :: xs, env, S => match g x env with
    | none => .bad
    | some env => match body env S with
      | .nx env S => forLoop g body xs env S
      | .ct env S => forLoop g body xs env S
      | .bk env S => .nx env S
      | r => r
def sFor (it : Itx) (g : Tgt) (body : Sm) : Sm := fun env S => match it env S with
  | .ok xs S => forLoop g body xs env S
  | .ex c S => .ex c env S
  | .bad => .bad
def whileLoop (c : Ex) (body : Sm) : Nat → En → Sto → RS
  | 0, _, _ => .bad
  | n + 1, env, S => match c env S with
    | .ok (.bl true) S => match body env S with
      | .nx env S => whileLoop c body n env S
      | .ct env S => whileLoop c body n env S
      | .bk env S => .nx env S
      | r => r
    | .ok (.bl false) S => .nx env S
    | .ok _ _ => .bad
    | .ex c S => .ex c env S
    | .bad => .bad
def fuel : Nat := 1000000
def sWhile (c : Ex) (body : Sm) : Sm := fun env S => whileLoop c body fuel env S
def sBreak : Sm := fun env S => .bk env S
def sRaise (c : Kx) : Sm := fun env S => .ex c env S

section
variable {X : Cx} {C : Kx → Addr} {E : WX} {a b c e tg : Expr} {da db dc : Ex} {sa sb sc : Sm} {pos : Pos} {st : Stmt} {sts : List Stmt} {K : PySem.W.Frag} {w w' : Wd} {env env' : En} {S S' : Sto} {σ σ' : L2.St} {H H' : Hp} {D : Ends}
theorem Sim.drop (s : Sim K C w env S σ H) : Sim K C w [] S [] H := ⟨s.f, s.b, s.fb, s.lb, Nat.le_refl _, fun _ _ e => (by simp at e), fun _ _ _ _ _ e => (by simp at e), s.ln, s.nd, s.cl⟩
theorem SpR.up {r : RS} (h : SpR K C E D w r) (le : w.le w') : SpR K C E D w' r := by
  cases r with
  | nx e s => exact fun w2 H2 σ2 l => h w2 H2 σ2 (le.trans l)
  | rt v s => exact fun w2 H2 x l => h w2 H2 x (le.trans l)
  | bk e s => exact fun w2 H2 σ2 l => h w2 H2 σ2 (le.trans l)
  | ct e s => exact fun w2 H2 σ2 l => h w2 H2 σ2 (le.trans l)
  | ex c e s => exact fun w2 H2 σ2 l => h w2 H2 σ2 (le.trans l)
  | bad => exact h
/-- the same ends but one -/
theorem SpR.mono {r : RS} {D' : Ends} (h : SpR K C E D w r) (h1 : ∀ σ H, D.nx σ H → D'.nx σ H) (h2 : ∀ x H, D.rt x H → D'.rt x H) (h3 : ∀ σ H, D.bk σ H → D'.bk σ H) (h4 : ∀ σ H, D.ct σ H → D'.ct σ H) : SpR K C E D' w r := by
  cases r with
  | nx e s => exact fun w2 H2 σ2 l q => h1 _ _ (h w2 H2 σ2 l q)
  | rt v s => exact fun w2 H2 x l q r => h2 _ _ (h w2 H2 x l q r)
  | bk e s => exact fun w2 H2 σ2 l q => h3 _ _ (h w2 H2 σ2 l q)
  | ct e s => exact fun w2 H2 σ2 l q => h4 _ _ (h w2 H2 σ2 l q)
  | ex c e s => exact h
  | bad => exact h
/-- an expression ahead of what follows -/
theorem head_rd {f : PV → Sto → RS} {Q : PV → V → Hp → Prop} (s : Sim K C w env S σ H) (h : SpR K C E D w (match da env S with
    | .ok v S => f v S
    | .ex c S => .ex c env S
    | .bad => .bad)) (hq : ∀ v S1 w1 H1 x, w.le w1 → Sim K C w1 env S1 σ H1 → Rep K C w1.F w1.ρ x v → SpR K C E D w1 (f v S1) → Q v x H1) : rE K C E da σ H fun x H1 => ∃ v, Q v x H1 := by
  refine ⟨w, env, S, s, ?_⟩
  cases hd : da env S with
  | ok v S1 =>
    rw [hd] at h
    exact fun w1 H1 le s1 x r => ⟨v, hq v S1 w1 H1 x le s1 r (SpR.up h le)⟩
  | ex c S1 =>
    rw [hd] at h
    exact fun w1 H1 le s1 => h w1 H1 σ le s1
  | bad => rw [hd] at h; exact h.elim
theorem hs_nil : PSs X [] (rS X.K C E sNil) := pss_nil.imp fun D σ H ⟨w, env, S, s, h⟩ => h w H σ (Wd.le.refl _) s
theorem seq_rd (s : Sim K C w env S σ H) (h : SpR K C E D w (sSeq sa sb env S)) : tSeq (rS K C E sa) (rS K C E sb) D σ H := by
  unfold sSeq at h
  refine ⟨w, env, S, s, ?_⟩
  cases hd : sa env S with
  | nx env1 S1 =>
    rw [hd] at h
    exact fun w1 H1 σ1 le s1 => ⟨w1, env1, S1, s1, SpR.up h le⟩
  | rt v S1 => rw [hd] at h; exact h
  | bk e S1 => rw [hd] at h; exact h
  | ct e S1 => rw [hd] at h; exact h
  | ex c e S1 => rw [hd] at h; exact h
  | bad => rw [hd] at h; exact h
theorem hs_cons (h1 : PS X st (rS X.K C E sa)) (h2 : PSs X sts (rS X.K C E sb)) : PSs X (st :: sts) (rS X.K C E (sSeq sa sb)) := (pss_cons h1 h2).imp fun D σ H ⟨w, env, S, s, h⟩ => seq_rd s h
theorem hs_one (h1 : PS X st (rS X.K C E sa)) : PSs X [st] (rS X.K C E sa) := pss_one h1
theorem h_ex (h : PE X e (rE X.K C E da)) (hs : swapsWith e none pos.line X.env = pure false := by rfl) : PS X (.Expr e pos) (rS X.K C E (sEx da)) := by
  refine (ps_expr h hs).imp ?_
  rintro D σ H ⟨w, env, S, s, h⟩
  have z := head_rd (f := fun _ S => .nx env S) (Q := fun _ _ H1 => D.nx σ H1) s h fun v S1 w1 H1 x le s1 r h1 => h1 w1 H1 σ (Wd.le.refl _) s1
  obtain ⟨w, env, S, s, z⟩ := z
  exact ⟨w, env, S, s, z.mono fun v S' w' H' _ _ p x r => (p x r).elim fun _ q => q⟩
theorem h_ret (h : PE X e (rE X.K C E da)) : PS X (.Return (some e) pos) (rS X.K C E (sRet da)) := by
  refine (ps_ret h).imp ?_
  rintro D σ H ⟨w, env, S, s, h⟩
  have z := head_rd (f := fun v S => .rt v S) (Q := fun _ x H1 => D.rt x H1) s h fun v S1 w1 H1 x le s1 r h1 => h1 w1 H1 x (Wd.le.refl _) s1.drop r
  obtain ⟨w, env, S, s, z⟩ := z
  exact ⟨w, env, S, s, z.mono fun v S' w' H' _ _ p x r => (p x r).elim fun _ q => q⟩
theorem put_rd {g : Tgt} {is : List Nat} (s : Sim K C w env S σ H) (h : SpR K C E D w (sPut g da env S)) : tAsg (rE K C E da) (rG K C g is) D σ H := by
  have z := head_rd (f := fun v S => match g v env with
    | some env => .nx env S
    | none => .bad) (Q := fun _ x H1 => rG K C g is x σ H1 D.nx) s h fun v S1 w1 H1 x le s1 r h1 => by
      cases hg : g v env with
      | none => simp only [hg] at h1; exact h1.elim
      | some env1 =>
        simp only [hg] at h1
        exact ⟨w1, env, S1, v, env1, s1, r, hg, fun σ' s' _ => h1 w1 H1 σ' (Wd.le.refl _) s'⟩
  obtain ⟨w, env, S, s, z⟩ := z
  exact ⟨w, env, S, s, z.mono fun v S' w' H' _ _ p x r => (p x r).elim fun _ q => q⟩
/-- target = e -/
theorem h_put {g : Tgt} {is : List Nat} (he : PE X e (rE X.K C E da)) (hg : PG X tg (rG X.K C g is)) (hs : swapsWithSole [tg] e pos.line X.env = pure false := by rfl) (hw : swappedStores [tg] e X.env = pure none := by rfl)
    (h1 : (assignEach [tg] X.env).map (·.2) = [assign tg X.env] := by rfl) : PS X (.Assign [tg] e pos) (rS X.K C E (sPut g da)) := (ps_asg he hg hs hw h1).imp fun D σ H ⟨w, env, S, s, h⟩ => put_rd s h
theorem h_set {i : Nat} {x : Str} {pos' : Pos} (hN : X.N.Nodup) (hi : X.N[i]? = some x) (hx : Loc X.env.scope x) (he : PE X e (rE X.K C E da)) (hs : swapsWith e (some (.Name x pos')) pos.line X.env = pure false := by rfl) (hf : X.fn x = true ∨ X.env.scope.names.lookup x = some .local := by first | exact .inl rfl | exact .inr rfl | assumption) :
    PS X (.Assign [.Name x pos'] e pos) (rS X.K C E (sPut (tgN i) da)) := by
  refine (ps_set hN hi hx he hs hf).imp ?_
  rintro D σ H ⟨w, env, S, s, h⟩
  have z := put_rd (is := [i]) s h
  obtain ⟨w, env, S, s, z⟩ := z
  refine ⟨w, env, S, s, z.mono fun v S' w' H' _ _ p x r => ?_⟩
  obtain ⟨w2, env2, S2, v2, env3, s2, r2, hg, q⟩ := p x r
  exact q _ (s2.putV hg r2) Chg.set
/-- .. of what is new: a slot of its own -/
theorem own_rd {i : Nat} (s : Sim K C w env S σ H) (h : SpR K C E D w (sOwn i da env S)) : tAsg (rN K C E da) (gName i) D σ H := by
  unfold sOwn at h
  refine ⟨w, env, S, s, ?_⟩
  cases hd : da env S with
  | ok v S1 =>
    rw [hd] at h
    intro w1 H1 le s1 p fr nm o
    cases hg : setV i (.own v) env with
    | none => simp only [hg] at h; exact h.elim
    | some env1 =>
      simp only [hg] at h
      refine h w1 H1 _ le (s1.put hg ⟨p, rfl, fr, o⟩ fun j y q hj e m z _ z2 => ?_)
      cases z2
      exact nm j y e m z
  | ex c S1 =>
    rw [hd] at h
    exact fun w1 H1 le s1 => h w1 H1 σ le s1
  | bad => rw [hd] at h; exact h.elim
theorem h_own {i : Nat} {x : Str} {pos' : Pos} (hN : X.N.Nodup) (hi : X.N[i]? = some x) (hx : Loc X.env.scope x) (he : PE X e (rN X.K C E da)) (hs : swapsWith e (some (.Name x pos')) pos.line X.env = pure false := by rfl) (hf : X.fn x = true ∨ X.env.scope.names.lookup x = some .local := by first | exact .inl rfl | exact .inr rfl | assumption) :
    PS X (.Assign [.Name x pos'] e pos) (rS X.K C E (sOwn i da)) := (ps_set hN hi hx he hs hf).imp fun D σ H ⟨w, env, S, s, h⟩ => own_rd s h
/-- x = [.. for ..] on one line -/
theorem h_ownLc {E' : WX} {i : Nat} {y : Str} {py pos' : Pos} {elt iter : Expr} {ifs : List Expr} {scope : Scope} {own : List (Str × Nat)} {it : Itx} {g : Tgt} {is : List Nat} {dc de : Ex} (hc : X.calm = true) (hN : X.N.Nodup) (hy : X.N[i]? = some y) (hyl : X.env.scope.names.lookup y = some .local)
    (hsw : swapsWith (.ListComp elt [⟨tg, iter, ifs, 0⟩] scope pos) (some (.Name y py)) pos'.line X.env = pure true) (hi : PI X tg iter (rIt X.K C E it)) (ok : BlkOk X.N X.env.scope scope own)
    (hg : ∀ (s : Shared) (H : Hp) (Ca : Addr) (cl : List (Str × Addr)) (fp : List Addr), PG (X.blk s H scope (compEnvC scope cl Ca X.env) fp) tg (rG X.K C g is)) (ht : ∀ (s : Shared) (H : Hp) (Ca : Addr) (cl : List (Str × Addr)) (fp : List Addr), PTs (X.blk s H scope (compEnvC scope cl Ca X.env) fp) ifs (rT X.K C E' dc))
    (he : ∀ (s : Shared) (H : Hp) (Ca : Addr) (cl : List (Str × Addr)) (fp : List Addr), PE (X.blk s H scope (compEnvC scope cl Ca X.env) fp) elt (rE X.K C E' de)) (htg : TgOk g is) (his : ∀ i ∈ is, i ∈ own.map (·.2) := by decide) (hs : ∀ x, foldedSetIterable iter X.env x = pure x := by intro _; rfl) :
    PS X (.Assign [.Name y py] (.ListComp elt [⟨tg, iter, ifs, 0⟩] scope pos) pos') (rS X.K C E (sOwn i (eLC it (own.map (·.2)) g dc de))) :=
  (ps_setLc hc hN hy hyl hsw hi ok hg ht he hs).imp fun D σ H ⟨w, env, S, s, h⟩ => lc_rd htg his (own_rd s h)
theorem h_ifS {sa' sb' : List Stmt} (hc : PT X c (rT X.K C E dc)) (ha : PSs X sa' (rS X.K C E sa)) (hb : PSs X sb' (rS X.K C E sb)) : PS X (.If c sa' sb' pos) (rS X.K C E (sIf dc sa sb)) := by
  refine (ps_if hc ha hb).imp ?_
  rintro D σ H ⟨w, env, S, s, h⟩
  unfold sIf at h
  refine ⟨w, env, S, s, ?_⟩
  cases hd : dc env S with
  | ok v S1 =>
    rw [hd] at h
    intro w1 H1 le s1
    cases v with
    | bl k =>
      refine ⟨k, rfl, ?_⟩
      cases k with
      | true => rw [if_pos rfl]; exact ⟨w1, env, S1, s1, SpR.up h le⟩
      | false => rw [if_neg Bool.false_ne_true]; exact ⟨w1, env, S1, s1, SpR.up h le⟩
    | _ => exact h.elim
  | ex c S1 =>
    rw [hd] at h
    exact fun w1 H1 le s1 => h w1 H1 σ le s1
  | bad => rw [hd] at h; exact h.elim
theorem h_break : PS X (.Break pos) (rS X.K C E sBreak) := ps_break.imp fun D σ H ⟨w, env, S, s, h⟩ => h w H σ (Wd.le.refl _) s
theorem h_pass : PS X (.Pass pos) (rS X.K C E sNil) := ps_pass.imp fun D σ H ⟨w, env, S, s, h⟩ => h w H σ (Wd.le.refl _) s

/-! ### loops -/
theorem for_rd {it : Itx} {g : Tgt} {is : List Nat} (s : Sim K C w env S σ H) (h : SpR K C E D w (sFor it g sa env S)) : tFor (rIt K C E it) (rG K C g is) (rS K C E sa) D σ H := by
  unfold sFor at h
  refine ⟨w, env, S, s, ?_⟩
  cases hd : it env S with
  | ex c S1 =>
    rw [hd] at h
    exact fun w1 H1 le s1 => h w1 H1 σ le s1
  | bad => rw [hd] at h; exact h.elim
  | ok xs S1 =>
    rw [hd] at h
    intro w1 H1 le1 s1 J fd
    have h := SpR.up h le1
    refine ⟨fun i m σ H => m = xs.length - i ∧ i ≤ xs.length ∧ ∃ w2 env2 S2, w1.le w2 ∧ Sim K C w2 env2 S2 σ H ∧ SpR K C E D w2 (forLoop g sa (xs.drop i) env2 S2), ⟨_, rfl, Nat.zero_le _, w1, env, S1, Wd.le.refl _, s1, h⟩, ?_⟩
    rintro i m σ2 H2 ⟨rfl, hil, w2, env2, S2, le2, s2, h2⟩
    have fdi := fd w2 H2 le2 s2.f s2.b
    by_cases hlt : i < xs.length
    · have hx : xs[i]? = some xs[i] := List.getElem?_eq_getElem hlt
      rw [List.drop_eq_getElem_cons hlt] at h2
      unfold forLoop at h2
      obtain ⟨f1, f2⟩ := fdi.1 i _ hx
      refine .inr ⟨f1, fun σ H => (fun i m σ H => m = xs.length - i ∧ i ≤ xs.length ∧ ∃ w2 env2 S2, w1.le w2 ∧ Sim K C w2 env2 S2 σ H ∧ SpR K C E D w2 (forLoop g sa (xs.drop i) env2 S2)) (i + 1) (xs.length - (i + 1)) σ H, fun σ' H' z => ⟨_, by omega, z⟩, fun x H3 hy => ?_⟩
      obtain ⟨F3, gr, rx⟩ := f2 x H3 hy
      obtain ⟨s3, le3⟩ := s2.grow gr
      cases hg : g xs[i] env2 with
      | none => simp only [hg] at h2; exact h2.elim
      | some env3 =>
        simp only [hg] at h2
        refine ⟨_, env2, S2, xs[i], env3, s3, rx, hg, fun σ4 s4 ch => ⟨_, env3, S2, s4, ?_⟩⟩
        have h4 := SpR.up h2 le3
        cases hb : sa env3 S2 with
        | nx e5 S5 =>
          simp only [hb] at h4
          exact fun w5 H5 σ5 le5 s5 => ⟨rfl, hlt, w5, e5, S5, le2.trans (le3.trans le5), s5, SpR.up h4 le5⟩
        | ct e5 S5 =>
          simp only [hb] at h4
          exact fun w5 H5 σ5 le5 s5 => ⟨rfl, hlt, w5, e5, S5, le2.trans (le3.trans le5), s5, SpR.up h4 le5⟩
        | bk e5 S5 => simp only [hb] at h4; exact h4
        | rt v S5 => simp only [hb] at h4; exact h4
        | ex c e5 S5 => simp only [hb] at h4; exact h4
        | bad => simp only [hb] at h4; exact h4
    · have e : i = xs.length := by omega
      subst e
      rw [List.drop_length] at h2
      exact .inl ⟨fdi.2, h2 w2 H2 σ2 (Wd.le.refl _) s2⟩
theorem h_for {it : Itx} {g : Tgt} {is : List Nat} {iter : Expr} {body : List Stmt} (hp : PassesOwn (model X.prog X.w) X.A X.env X.xe) (hc : X.calm = true) (hi : PI X tg iter (rIt X.K C E it)) (hg : PG X tg (rG X.K C g is)) (hb : PSs X body (rS X.K C E sa))
    (hs : ∀ x, foldedSetIterable iter X.env x = pure x := by intro _; rfl) : PS X (.For tg iter body [] pos) (rS X.K C E (sFor it g sa)) := (ps_for hp hc hi hg hb hs).imp fun D σ H ⟨w, env, S, s, h⟩ => for_rd s h
theorem while_rd : ∀ (n : Nat) {w : Wd} {env : En} {S : Sto} {σ : L2.St} {H : Hp}, Sim K C w env S σ H → SpR K C E D w (whileLoop dc sa n env S) → tWhile (rT K C E dc) (rS K C E sa) D σ H := by
  intro n w env S σ H s h
  refine ⟨fun m σ H => ∃ w2 env2 S2, Sim K C w2 env2 S2 σ H ∧ SpR K C E D w2 (whileLoop dc sa m env2 S2), ⟨n, w, env, S, s, h⟩, ?_⟩
  rintro m σ2 H2 ⟨w2, env2, S2, s2, h2⟩
  cases m with
  | zero => exact h2.elim
  | succ m =>
    unfold whileLoop at h2
    refine ⟨w2, env2, S2, s2, ?_⟩
    cases hc : dc env2 S2 with
    | ex c S3 => simp only [hc] at h2; exact fun w1 H1 le s1 => h2 w1 H1 σ2 le s1
    | bad => simp only [hc] at h2; exact h2.elim
    | ok v S3 =>
      simp only [hc] at h2
      intro w3 H3 le3 s3
      cases v with
      | bl k =>
        cases k with
        | false => exact ⟨false, rfl, iteF (h2 w3 H3 σ2 le3 s3)⟩
        | true =>
          refine ⟨true, rfl, iteT ?_⟩
          refine ⟨fun σ H => ∃ w2 env2 S2, Sim K C w2 env2 S2 σ H ∧ SpR K C E D w2 (whileLoop dc sa m env2 S2), fun σ' H' z => ⟨m, Nat.lt_succ_self _, z⟩, w3, env2, S3, s3, ?_⟩
          have h3 := SpR.up h2 le3
          cases hb : sa env2 S3 with
          | nx e5 S5 => simp only [hb] at h3; exact fun w5 H5 σ5 le5 s5 => ⟨w5, e5, S5, s5, SpR.up h3 le5⟩
          | ct e5 S5 => simp only [hb] at h3; exact fun w5 H5 σ5 le5 s5 => ⟨w5, e5, S5, s5, SpR.up h3 le5⟩
          | bk e5 S5 => simp only [hb] at h3; exact h3
          | rt v S5 => simp only [hb] at h3; exact h3
          | ex c e5 S5 => simp only [hb] at h3; exact h3
          | bad => simp only [hb] at h3; exact h3
      | _ => exact h2.elim
theorem h_while {body : List Stmt} (hp : PassesOwn (model X.prog X.w) X.A X.env X.xe) (hc : PT X c (rT X.K C E dc)) (hb : PSs X body (rS X.K C E sa)) : PS X (.While c body [] pos) (rS X.K C E (sWhile dc sa)) :=
  (ps_while hp hc hb).imp fun D σ H ⟨w, env, S, s, h⟩ => while_rd fuel s h
theorem h_raise {t : L2.St → Hp → XK → Prop} {k : Kx} (hc : X.calm = true) (tk : Takes X E) (he : PMk X e fun _ H Q => Q (.ref (C k)) none H) : PS X (.Raise (some e) none pos) (rS X.K C E (sRaise k)) :=
  (ps_raise hc tk he).imp fun D σ H ⟨w, env, S, s, h⟩ => h w H σ (Wd.le.refl _) s
end
end Hw

set_option maxRecDepth 100000
set_option maxHeartbeats 4000000
namespace Hw
open PySem PySem.Spec L2
open PyProof.Rows (envOfC)

/-! ### defs -/
abbrev Fn := List PV → Sto → R PV
mutual
/-- no pointer to a cell from n on -/
def PV.pl : PV → Nat → Bool
  | .tup xs, n => PV.plL xs n
  | .lst xs, n => PV.plL xs n
  | .dI xs, n => PV.plI xs n
  | .dT xs, n => PV.plT xs n
  | .ptr m, n => decide (m < n)
  | _, _ => true
termination_by structural x => x
def PV.plL : List PV → Nat → Bool
  | [], _ => true
  | x :: xs, n => PV.pl x n && PV.plL xs n
termination_by structural x => x
def PV.plI : List (Int × PV) → Nat → Bool
  | [], _ => true
  | x :: xs, n => PV.plP x n && PV.plI xs n
termination_by structural x => x
def PV.plP : Int × PV → Nat → Bool
  | (_, x), n => PV.pl x n
termination_by structural x => x
def PV.plT : List (List Int × PV) → Nat → Bool
  | [], _ => true
  | x :: xs, n => PV.plQ x n && PV.plT xs n
termination_by structural x => x
def PV.plQ : List Int × PV → Nat → Bool
  | (_, x), n => PV.pl x n
termination_by structural x => x
end
/-- what nobody sees any more is gone -/
def truncR (n : Nat) : R PV → R PV
  | .ok v S => if v.pl n && PV.plL (S.take n) n then .ok v (S.take n) else .ok v S
  | .ex c S => if PV.plL (S.take n) n then .ex c (S.take n) else .ex c S
  | .bad => .bad
def runFn (n : Nat) (d : Sm) : Fn := fun args S => truncR S.length (match d (args.map .v ++ List.replicate (n - args.length) .un) S with
  | .nx _ S' => .ok .non S'
  | .rt v S' => .ok v S'
  | .ex c _ S' => .ex c S'
  | _ => .bad)
def eCall (f : Fn) (a : Exs) : Ex := fun env S => (a env S).bind fun us S => f us S
section
variable (K : PySem.W.Frag) (C : Kx → Addr)
/-- what a call is to leave -/
def FnR (w : Wd) (Q : VK) (E : XK) : R PV → Prop
  | .ok v S' => ∀ w' H' x, w.le w' → Sim K C w' [] S' [] H' → Rep K C w'.F w'.ρ x v → Q x H'
  | .ex c S' => ∀ w' H', w.le w' → Sim K C w' [] S' [] H' → E (.ref (C c)) none H'
  | .bad => False
def spF (f : Fn) (n : Nat) : Sp := fun vs H Q E => ∃ w S args, Sim K C w [] S [] H ∧ RepL K C w.F w.ρ vs args ∧ args.length = n ∧ FnR K C w Q E (f args S)
end
section
variable {X : Cx} {C : Kx → Addr} {E : WX} {pos : Pos} {K : PySem.W.Frag} {w w' : Wd} {env env' : En} {S S' : Sto} {σ σ' : L2.St} {H H' : Hp} {D : Ends}
/-- the callee's world: our own slots are others' there -/
theorem Sim.call (s : Sim K C w env S σ H) : ∃ wc : Wd, wc.F = w.F ∧ wc.ρ = w.ρ ∧ Sim K C wc [] S [] H ∧ ∀ w1 H1 S1, wc.le w1 → Sim K C w1 [] S1 [] H1 → ∃ w', w.le w' ∧ w'.F = w1.F ∧ w'.ρ = w1.ρ ∧ Sim K C w' env S1 σ H1 := by
  classical
  let B' : Hp := fun (a : Addr) => if (∃ (i : Nat) (x : PV), env[i]? = some (SV.own x) ∧ σ[i]? = some (some (V.ref a))) then H a else w.B a
  have B'o : ∀ {i : Nat} {x : PV} {a : Addr}, env[i]? = some (SV.own x) → σ[i]? = some (some (V.ref a)) → B' a = H a := fun {i x a} h1 h2 => if_pos ⟨i, x, h1, h2⟩
  have B'n : ∀ {a : Addr}, (¬ ∃ (i : Nat) (x : PV), env[i]? = some (SV.own x) ∧ σ[i]? = some (some (V.ref a))) → B' a = w.B a := fun {a} h => if_neg h
  have own : ∀ {i : Nat} {x : PV} {a : Addr}, env[i]? = some (SV.own x) → σ[i]? = some (some (V.ref a)) → Fr1 w a ∧ ObjR K C w H a x := fun {i x a} h1 h2 => by
    obtain ⟨b, h3, h4, h5⟩ := s.sl i _ h1
    rw [h2] at h3
    cases h3
    exact ⟨h4, h5⟩
  have keepB : ∀ {a : Addr} {o : HO}, w.B a = some o → B' a = some o := fun {a o} h => by
    rw [B'n]
    · exact h
    · rintro ⟨i, x, h1, h2⟩
      have z := (own h1 h2).1.b
      rw [h] at z; cases z
  refine ⟨⟨w.F, B', w.ρ, fun _ => none⟩, rfl, rfl, ⟨s.f, fun a o e => ?_, fun a o e => ?_, (fun i a z => nomatch z), Nat.le_refl _, fun _ _ e => (by simp at e), fun _ _ _ _ _ e => (by simp at e), s.ln, s.nd, fun n c a e1 e2 => ?_⟩, fun w1 H1 S1 le s1 => ?_⟩
  · by_cases h : ∃ (i : Nat) (x : PV), env[i]? = some (SV.own x) ∧ σ[i]? = some (some (V.ref a))
    · obtain ⟨i, x, h1, h2⟩ := h
      have e : B' a = some o := e
      rw [B'o h1 h2] at e; exact e
    · have e : B' a = some o := e
      rw [B'n h] at e; exact s.b _ _ e
  · by_cases h : ∃ (i : Nat) (x : PV), env[i]? = some (SV.own x) ∧ σ[i]? = some (some (V.ref a))
    · obtain ⟨i, x, h1, h2⟩ := h
      exact .inl (own h1 h2).1.f
    · have e : B' a = some o := e
      rw [B'n h] at e; exact s.fb _ _ e
  · obtain ⟨h1, h2, h3⟩ := s.cl n c a e1 e2
    refine ⟨h1, ?_, h3.same rfl rfl⟩
    show B' a = none
    rw [B'n]
    · exact h2
    · rintro ⟨i, x, h4, h5⟩
      exact (own h4 h5).1.r (List.mem_of_getElem? e2)
  · have b1 : w1.B = B' := le.b
    have lew : w.le { F := w1.F, B := w.B, ρ := w1.ρ, L := w.L } := ⟨le.f, rfl, rfl, le.r⟩
    have bh : ∀ {a : Addr} {o : HO}, w.B a = some o → w1.B a = some o := fun {a o} h => by rw [b1]; exact keepB h
    have own1 : ∀ {i : Nat} {x : PV} {a : Addr}, env[i]? = some (SV.own x) → σ[i]? = some (some (V.ref a)) → w1.B a = H a := fun {i x a} h1 h2 => by rw [b1]; exact B'o h1 h2
    refine ⟨{ F := w1.F, B := w.B, ρ := w1.ρ, L := w.L }, lew, rfl, rfl, ⟨s1.f, fun a o e => s1.b _ _ (bh e), fun a o e => s1.fb _ _ (bh e), s.lb, s.le, fun i x e => ?_, s.od, s1.ln, s1.nd, fun n c a e1 e2 => ?_⟩⟩
    · have z := s.sl i x e
      cases x with
      | un => trivial
      | v y => obtain ⟨u, h1, h2⟩ := z; exact ⟨u, h1, RepW.up lew h2⟩
      | lk y =>
        obtain ⟨a, h0, h1, h2⟩ := z
        exact ⟨a, h0, h1, h2.up lew fun _ e => e⟩
      | own y =>
        obtain ⟨a, h1, h2, h3⟩ := z
        obtain ⟨o, ho⟩ := h3.there
        have hb : w1.B a = some o := by rw [own1 e h1]; exact ho
        have hf : w1.F a = none := by
          rcases s1.fb a o hb with h | ⟨xs, h⟩
          · exact h
          · subst h; exact absurd ho (h3.nottup xs)
        refine ⟨a, h1, ⟨hf, h2.b, fun hm => ?_⟩, h3.up lew fun u hu => ?_⟩
        · obtain ⟨n, hn⟩ := List.getElem?_of_mem hm
          have hlt := (List.getElem?_eq_some_iff.mp hn).1
          rw [s1.ln] at hlt
          obtain ⟨_, h4, _⟩ := s1.cl n _ a (List.getElem?_eq_getElem hlt) hn
          rw [hb] at h4; cases h4
        · rw [ho] at hu; cases hu; exact s1.b _ _ hb
    · obtain ⟨h1, h2, h3⟩ := s1.cl n c a e1 e2
      refine ⟨h1, ?_, h3.same rfl rfl⟩
      cases q : w.B a with
      | none => rfl
      | some o => rw [bh q] at h2; cases h2
theorem call_rd {f : Fn} {n : Nat} {vs : List V} {args : List PV} {Q : VK} {P : PV → Sto → Wd → Hp → Prop} (s : Sim K C w env S σ H) (r : RepL K C w.F w.ρ vs args) (hn : args.length = n)
    (h : Wp K C E w env σ (f args S) P) (hq : ∀ v S' w' H' x, Sim K C w' env S' σ H' → P v S' w' H' → Rep K C w'.F w'.ρ x v → Q x H') : spF K C f n vs H Q (WE E σ) := by
  obtain ⟨wc, f1, r1, sc, back⟩ := s.call
  refine ⟨wc, S, args, sc, by rw [f1, r1]; exact r, hn, ?_⟩
  cases hd : f args S with
  | ok v S1 =>
    rw [hd] at h
    intro w1 H1 x le s1 rx
    obtain ⟨w2, l2, e1, e2, s2⟩ := back w1 H1 S1 le s1
    exact hq v S1 w2 H1 x s2 (h w2 H1 l2 s2) (by rw [e1, e2]; exact rx)
  | ex c S1 =>
    rw [hd] at h
    intro w1 H1 le s1
    obtain ⟨w2, l2, e1, e2, s2⟩ := back w1 H1 S1 le s1
    exact h w2 H1 l2 s2
  | bad => rw [hd] at h; exact h.elim
section
variable {k : Nat} {f : Addr} {fd : FuncData} {ps : List Str} {x : Str} {p : Pos} {e : Expr} {es : List Expr} {ds : Exs} {fn : Fn}
/-- f(e, ..), all parameters written -/
theorem h_call {n : Nat} (F : FnOk X.prog X.w X.K X.mg X.base (L2.CX X.prog X.w) k f fd ps (spF X.K C fn n)) (hr : Room k X.A) (hg : Gl X x) (hm : X.mg x = some (.ref f)) (hk : PySem.W.keepIn X.K (.ref f) = true) (hb : Binds X.K fd ps []) (tk : Takes X E)
    (ha : PA X (e :: es) (rA X.K C E ds)) (hl : ∀ env S us S', ds env S = .ok us S' → us.length = n) (hdb : (x == ("__debug__" : Str)) = false := by decide) (he : starEach (e :: es) X.env = (false, eval e X.env) :: starEach es X.env := by rfl) (hpl : (backTo pos (starEach es X.env)).any (·.1) = false := by rfl) :
    PE X (.Call (.Name x p) (e :: es) [] pos) (rE X.K C E (eCall fn ds)) := by
  refine (pe_callS F hr hg hm hk hb (passAt tk) ha hdb he hpl).imp ?_
  rintro σ H Q ⟨w, env, S, s, h⟩
  unfold eCall at h
  refine ⟨w, env, S, s, ?_⟩
  cases hd : ds env S with
  | ok us S1 =>
    rw [hd] at h
    have h : Wp X.K C E w env σ (fn us S1) _ := h
    intro w1 H1 le1 s1 vs rv
    exact call_rd s1 rv (hl _ _ _ _ hd) (h.up le1) fun v S' w' H' y s' p r => p y r
  | ex c S1 => rw [hd] at h; exact h
  | bad => rw [hd] at h; exact h
end

/-! ### a def's body -/
theorem slots_start {vs : List V} {args : List PV} (m : Nat) (s : Sim K C w [] S [] H) (r : RepL K C w.F w.ρ vs args) : Sim K C w (args.map SV.v ++ List.replicate m SV.un) S (vs.map some ++ List.replicate m none) H := by
  have hl := r.length
  have pl : ∀ i x, (args.map SV.v ++ List.replicate m SV.un)[i]? = some x → (∃ y, args[i]? = some y ∧ x = SV.v y) ∨ (x = SV.un) := fun i x e => by
    by_cases hi : i < args.length
    · rw [List.getElem?_append_left (by simpa using hi), List.getElem?_map] at e
      cases q : args[i]? with
      | none => rw [q] at e; cases e
      | some y => rw [q] at e; cases e; exact .inl ⟨y, q, rfl⟩
    · rw [List.getElem?_append_right (by simpa using hi), List.getElem?_replicate] at e
      split at e <;> cases e
      exact .inr rfl
  refine ⟨s.f, s.b, s.fb, s.lb, by simp [hl], fun i x e => ?_, fun i j x y a e1 e2 m1 m2 => ?_, s.ln, s.nd, s.cl⟩
  · rcases pl i x e with ⟨y, h1, rfl⟩ | rfl
    · obtain ⟨v, h2, h3⟩ := r.get h1
      have hi : i < vs.length := (List.getElem?_eq_some_iff.mp h2).1
      refine ⟨v, ?_, h3⟩
      rw [List.getElem?_append_left (by simpa using hi), List.getElem?_map, h2] <;> rfl
    · trivial
  · rcases pl i x e1 with ⟨_, _, rfl⟩ | rfl <;> cases m1
mutual
theorem Rep.cut {F : Hp} {ρ : List Addr} (n : Nat) : ∀ {v : V} {x : PV}, Rep K C F ρ v x → x.pl n = true → Rep K C F (ρ.take n) v x
  | _, _, .non, _ => .non
  | _, _, .bl b, _ => .bl b
  | _, _, .int i, _ => .int i
  | _, _, .str x, _ => .str x
  | _, _, .tup r s, h => .tup r (RepL.cut n s h)
  | _, _, .lst r s, h => .lst r (RepL.cut n s h)
  | _, _, .dI r s, h => .dI r (RepI.cut n s h)
  | _, _, .dT r s, h => .dT r (RepT.cut n s h)
  | _, _, .exc r, _ => .exc r
  | _, _, .kls r, _ => .kls r
  | _, _, .ptr r, h => .ptr (by rw [List.getElem?_take_of_lt (of_decide_eq_true h)]; exact r)
theorem RepL.cut {F : Hp} {ρ : List Addr} (n : Nat) : ∀ {v : List V} {x : List PV}, RepL K C F ρ v x → PV.plL x n = true → RepL K C F (ρ.take n) v x
  | _, _, .nil, _ => .nil
  | _, _, .cons r s, h => .cons (Rep.cut n r (Bool.and_eq_true_iff.mp h).1) (RepL.cut n s (Bool.and_eq_true_iff.mp h).2)
theorem RepI.cut {F : Hp} {ρ : List Addr} (n : Nat) : ∀ {v : List (Key × V)} {x : List (Int × PV)}, RepI K C F ρ v x → PV.plI x n = true → RepI K C F (ρ.take n) v x
  | _, _, .nil, _ => .nil
  | _, _, .cons r s, h => .cons (Rep.cut n r (Bool.and_eq_true_iff.mp h).1) (RepI.cut n s (Bool.and_eq_true_iff.mp h).2)
theorem RepT.cut {F : Hp} {ρ : List Addr} (n : Nat) : ∀ {v : List (List Key × V)} {x : List (List Int × PV)}, RepT K C F ρ v x → PV.plT x n = true → RepT K C F (ρ.take n) v x
  | _, _, .nil, _ => .nil
  | _, _, .cons r s, h => .cons (Rep.cut n r (Bool.and_eq_true_iff.mp h).1) (RepT.cut n s (Bool.and_eq_true_iff.mp h).2)
end
theorem plL_get {n i : Nat} {c : PV} : ∀ {S : List PV}, PV.plL S n = true → S[i]? = some c → c.pl n = true
  | [], _, e => by simp at e
  | x :: xs, h, e => by
    obtain ⟨h1, h2⟩ := Bool.and_eq_true_iff.mp (show (x.pl n && PV.plL xs n) = true from h)
    cases i with
    | zero => simp at e; subst e; exact h1
    | succ i => exact plL_get h2 (by simpa using e)
theorem ObjR.cut {n : Nat} {a : Addr} {x : PV} (r : ObjR K C w H a x) (h : x.pl n = true) : ObjR K C { w with ρ := w.ρ.take n } H a x := by
  cases x with
  | lst xs => obtain ⟨vs, e, r⟩ := r; exact ⟨vs, e, r.cut n h⟩
  | dI xs => obtain ⟨vs, e, r⟩ := r; exact ⟨vs, e, r.cut n h⟩
  | dT xs => obtain ⟨vs, e, r⟩ := r; exact ⟨vs, e, r.cut n h⟩
  | _ => exact r.elim
theorem Sim.cut {n : Nat} (s : Sim K C w [] S [] H) (h : PV.plL (S.take n) n = true) : Sim K C { w with ρ := w.ρ.take n } [] (S.take n) [] H := by
  refine ⟨s.f, s.b, s.fb, s.lb, s.le, fun _ _ e => (by simp at e), fun _ _ _ _ _ e => (by simp at e), by simp [s.ln], s.nd.sublist (List.take_sublist ..), fun m c a e1 e2 => ?_⟩
  have hm : m < n := by
    have := (List.getElem?_eq_some_iff.mp e1).1
    rw [List.length_take] at this; omega
  have e1' := e1
  rw [List.getElem?_take_of_lt hm] at e1'
  have e2 : (w.ρ.take n)[m]? = some a := e2
  rw [List.getElem?_take_of_lt hm] at e2
  obtain ⟨f, b, o⟩ := s.cl m c a e1' e2
  exact ⟨f, b, o.cut (plL_get h e1)⟩
theorem FnR.cut {Q : VK} {E : XK} {r : R PV} (hl : w.ρ.length = n) (h : FnR K C w Q E (truncR n r)) : FnR K C w Q E r := by
  have lec : ∀ {w' : Wd}, w.le w' → w.le { w' with ρ := w'.ρ.take n } := fun {w'} le => by
    obtain ⟨m, e⟩ := le.r
    exact ⟨le.f, le.b, le.l, [], by show w'.ρ.take n = _; rw [e, List.append_nil, ← hl, List.take_left']; rfl⟩
  cases r with
  | ok v S' =>
    simp only [truncR] at h
    split at h
    · rename_i hp
      obtain ⟨h1, h2⟩ := Bool.and_eq_true_iff.mp hp
      exact fun w' H' x le s r => h _ H' x (lec le) (s.cut h2) (r.cut n h1)
    · exact h
  | ex c S' =>
    simp only [truncR] at h
    split at h
    · rename_i hp
      exact fun w' H' le s => h _ H' (lec le) (s.cut hp)
    · exact h
  | bad => exact h
/-- the promise of a def by its body -/
theorem body_rd {N ps : List Str} {d : Sm} {vs : List V} {Q : VK} {EX : XK} (hN : ps.length ≤ N.length) (h : spF K C (runFn N.length d) ps.length vs H Q EX) :
    rS K C (fun cls dd _ H => EX cls dd H) d { nx := fun _ H' => Q .non H', rt := Q } (L2.start N vs) H := by
  obtain ⟨w, S, args, s, r, hl, h⟩ := h
  have hlv := r.length
  rw [show L2.start N vs = vs.map some ++ List.replicate (N.length - args.length) none from by unfold L2.start; rw [hlv]]
  refine ⟨w, _, S, slots_start (N.length - args.length) s r, ?_⟩
  unfold runFn at h
  have h := FnR.cut s.ln h
  cases hd : d (args.map SV.v ++ List.replicate (N.length - args.length) SV.un) S with
  | nx e1 S1 => rw [hd] at h; exact fun w1 H1 σ1 le s1 => h w1 H1 .non le s1.drop .non
  | rt v S1 => rw [hd] at h; exact fun w1 H1 x le s1 rx => h w1 H1 x le s1 rx
  | bk e1 S1 => rw [hd] at h; exact h.elim
  | ct e1 S1 => rw [hd] at h; exact h.elim
  | ex c e1 S1 => rw [hd] at h; exact fun w1 H1 σ1 le s1 => h w1 H1 le s1.drop
  | bad => rw [hd] at h; exact h.elim
theorem spF_len {f : Fn} {n : Nat} : ∀ vs H Q EX, spF K C f n vs H Q EX → vs.length = n := fun vs H Q EX h => by
  obtain ⟨w, S, args, s, r, hl, h⟩ := h
  rw [r.length]; exact hl
theorem FnScope.le {N ps : List Str} {sc : Scope} (S : FnScope N ps sc) : ps.length ≤ N.length := by
  have := congrArg List.length S.pre
  rw [List.length_take] at this
  omega
abbrev XE1 (EX : XK) : WX := fun cls dd _ H => EX cls dd H
/-- THE RULE for a def without defaults -/
theorem fn_ok {P : Program} {W : World} {mg : Str → Option Value} {base : Heap} {x qual : Str} {st : Stmt} {f : Addr} {fd : FuncData} {N ps : List Str} {k : Nat} {d : Sm} (F : Fun K x qual st f fd) (S : FnScope N ps (defScope st))
    (hbody : ∀ (cdv : Value) (A : Around) (outer : List PySem.Env) (s : Shared) (H : Hp) (EX : XK), Room k (A.deeper (envOfC qual (defScope st) s.heap.objs.size f cdv)) →
      PSs (cxOf (L2.CX P W) P W K mg base N qual (defScope st) f cdv A outer s H EX) (defBody st) (rS K C (XE1 EX) d)) :
    FnOk P W K mg base (L2.CX P W) (k + 1) f fd ps (spF K C (runFn N.length d) ps.length) :=
  F.okX S spF_len fun cdv A outer s H vs Q EX hr hsp => ⟨_, hbody cdv A outer s H EX hr, body_rd (FnScope.le S) hsp⟩
end
end Hw

set_option maxRecDepth 100000
set_option maxHeartbeats 4000000
namespace Hw
open PySem PySem.Spec L2
open PyProof.Rows (envOfC)

/-! ### what plain operations do -/
mutual
def PV.eq : PV → PV → Bool
  | .non, .non => true
  | .bl a, .bl b => a == b
  | .bl a, .int j => (if a then 1 else 0) == j
  | .int i, .bl b => i == (if b then 1 else 0)
  | .int i, .int j => i == j
  | .str x, .str y => x == y
  | .tup xs, .tup ys => PV.eqL xs ys
  | .lst xs, .lst ys => PV.eqL xs ys
  | _, _ => false
termination_by structural x => x
def PV.eqL : List PV → List PV → Bool
  | [], [] => true
  | x :: xs, y :: ys => PV.eq x y && PV.eqL xs ys
  | _, _ => false
termination_by structural x => x
end
mutual
/-- may be compared, to this depth -/
def PV.sh : PV → Nat → Bool
  | .non, _ => true
  | .bl _, _ => true
  | .int _, _ => true
  | .str x, _ => x.cps.all (· < 0x110000)
  | .tup _, 0 => false
  | .lst _, 0 => false
  | .tup xs, n + 1 => PV.shL xs n
  | .lst xs, n + 1 => PV.shL xs n
  | _, _ => false
termination_by structural x => x
def PV.shL : List PV → Nat → Bool
  | [], _ => true
  | x :: xs, n => PV.sh x n && PV.shL xs n
termination_by structural x => x
end
mutual
def PV.dat : PV → PyData
  | .non => .none
  | .bl b => .bool b
  | .int i => .int i
  | .str x => .str x
  | .tup xs => .tuple (PV.datL xs)
  | .lst xs => .list (PV.datL xs)
  | _ => .none
termination_by structural x => x
def PV.datL : List PV → List PyData
  | [] => []
  | x :: xs => PV.dat x :: PV.datL xs
termination_by structural x => x
end
def pEq (u v : PV) : Option PV := if u.sh 16 && v.sh 16 then some (.bl (u.eq v)) else none
def pNe (u v : PV) : Option PV := if u.sh 16 && v.sh 16 then some (.bl (!u.eq v)) else none
def pAdd : PV → PV → Option PV
  | .int i, .int j => some (.int (i + j))
  | .lst xs, .lst ys => if xs.length + ys.length ≤ 1000000 then some (.lst (xs ++ ys)) else none
  | .tup xs, .tup ys => if xs.length + ys.length ≤ 1000000 then some (.tup (xs ++ ys)) else none
  | _, _ => none
def pSub : PV → PV → Option PV
  | .int i, .int j => some (.int (i - j))
  | _, _ => none
def cmulB (i j : Int) : Bool := (decide (-(2 ^ 64) < i) && decide (i < 2 ^ 64)) || (decide (-(2 ^ 64) < j) && decide (j < 2 ^ 64))
def pMul : PV → PV → Option PV
  | .int i, .int j => if cmulB i j then some (.int (i * j)) else none
  | .lst xs, .int k => if decide (-(2 ^ 63) ≤ k) && decide (k < 2 ^ 63) && decide (xs.length * k.toNat ≤ 1000000) then some (.lst (List.replicate k.toNat xs).flatten) else none
  | .tup xs, .int k => if !xs.isEmpty && decide (2 ≤ k) && decide (k ≤ 1000) && decide (xs.length ≤ 1000) then some (.tup (List.replicate k.toNat xs).flatten) else if k == 1 then none else none
  | _, _ => none
def pMod : PV → PV → Option PV
  | .int i, .int j => if 0 < j then some (.int (i % j)) else none
  | _, _ => none
def pDiv : PV → PV → Option PV
  | .int i, .int j => if 0 < j ∧ j < 1073741824 then some (.int (i / j)) else none
  | _, _ => none
def pPow : PV → PV → Option PV
  | .int i, .int j => if 0 ≤ j ∧ j ≤ 1000000 ∧ i.natAbs < 2 ^ 64 then some (.int (i ^ j.toNat)) else none
  | _, _ => none
def pNeg : PV → Option PV
  | .int i => some (.int (-i))
  | _ => none
def pLt : PV → PV → Option PV
  | .int i, .int j => some (.bl (decide (i < j)))
  | _, _ => none
def pLe : PV → PV → Option PV
  | .int i, .int j => some (.bl (decide (i ≤ j)))
  | _, _ => none
def pGt : PV → PV → Option PV
  | .int i, .int j => some (.bl (decide (j < i)))
  | _, _ => none
def pGe : PV → PV → Option PV
  | .int i, .int j => some (.bl (decide (j ≤ i)))
  | _, _ => none
def pIs : PV → PV → Option PV
  | .bl a, .bl b => some (.bl (decide (a = b)))
  | x, .non => match x with | .non => some (.bl true) | _ => some (.bl false)
  | _, _ => none
def pIsNot : PV → PV → Option PV
  | .bl a, .bl b => some (.bl (!decide (a = b)))
  | x, .non => match x with | .non => some (.bl false) | _ => some (.bl true)
  | _, _ => none
def pAbs : PV → Option PV
  | .int i => some (.int (if i < 0 then -i else i))
  | _ => none
def pMax2 : PV → PV → Option PV
  | .int i, .int j => some (.int (if j > i then j else i))
  | _, _ => none
def pMin2 : PV → PV → Option PV
  | .int i, .int j => some (.int (if j < i then j else i))
  | _, _ => none
def pLen : PV → Option PV
  | .lst xs => some (.int xs.length)
  | .tup xs => some (.int xs.length)
  | _ => none
def blsOf : List PV → Option (List Bool)
  | [] => some []
  | .bl b :: r => (blsOf r).map fun s => b :: s
  | _ => none
def pAll : PV → Option PV
  | .lst xs => (blsOf xs).map fun bs => .bl (bs.all id)
  | _ => none
def pAny : PV → Option PV
  | .lst xs => (blsOf xs).map fun bs => .bl (bs.any id)
  | _ => none
def pTuple : PV → Option PV
  | .lst xs => some (.tup xs)
  | .tup xs => some (.tup xs)
  | _ => none
def pList : PV → Option PV
  | .lst xs => some (.lst xs)
  | .tup xs => some (.lst xs)
  | _ => none
def pIdx : PV → PV → Option PV
  | .lst xs, .int i => atI xs i
  | .tup xs, .int i => atI xs i
  | _, _ => none
def flatP : PV → Bool
  | .non => true | .bl _ => true | .int _ => true | .str _ => true
  | _ => false
def pIn (x y : PV) : Option PV := match y with
  | .lst ys => if flatP x && ys.all flatP then some (.bl (ys.any fun z => z.eq x)) else if x.sh 16 && PV.shL ys 16 then some (.bl (ys.any fun z => z.eq x)) else none
  | .tup ys => if flatP x && ys.all flatP then some (.bl (ys.any fun z => z.eq x)) else none
  | _ => none
def pNotIn (x y : PV) : Option PV := match pIn x y with
  | some (.bl b) => some (.bl (!b))
  | _ => none
inductive Ty where | int | bool | tuple | list | dict | str
  deriving DecidableEq
def Ty.nm : Ty → String
  | .int => "int" | .bool => "bool" | .tuple => "tuple" | .list => "list" | .dict => "dict" | .str => "str"
def pIsI (T : Ty) : PV → Option PV
  | .non => some (.bl false)
  | .bl _ => some (.bl (decide (T = .bool ∨ T = .int)))
  | .int _ => some (.bl (decide (T = .int)))
  | .str _ => some (.bl (decide (T = .str)))
  | .tup _ => some (.bl (decide (T = .tuple)))
  | .lst _ => some (.bl (decide (T = .list)))
  | .dI _ => some (.bl (decide (T = .dict)))
  | .dT _ => some (.bl (decide (T = .dict)))
  | _ => none
end Hw

set_option maxRecDepth 100000
set_option maxHeartbeats 4000000
namespace Hw
open PySem PySem.Spec L2
section
variable {X : Cx} {C : Kx → Addr} {K : PySem.W.Frag} {F F' H H' : Hp} {ρ : List Addr}
/-! ### reading what is seen -/
theorem Seen.int {x : V} {i : Int} (h : Seen K C F ρ H x (.int i)) : x = .int i := by
  rcases h with h | ⟨a, _, h⟩
  · cases h; rfl
  · exact h.elim
theorem Seen.bl {x : V} {i : Bool} (h : Seen K C F ρ H x (.bl i)) : x = .bl i := by
  rcases h with h | ⟨a, _, h⟩
  · cases h; rfl
  · exact h.elim
theorem Seen.non {x : V} (h : Seen K C F ρ H x .non) : x = .non := by
  rcases h with h | ⟨a, _, h⟩
  · cases h; rfl
  · exact h.elim
theorem Seen.str {x : V} {i : Str} (h : Seen K C F ρ H x (.str i)) : x = .str i := by
  rcases h with h | ⟨a, _, h⟩
  · cases h; rfl
  · exact h.elim
theorem Seen.tup {x : V} {xs : List PV} (h : Seen K C F ρ H x (.tup xs)) : ∃ a vs, x = .ref a ∧ SqT K F a vs ∧ RepL K C F ρ vs xs := by
  rcases h with h | ⟨a, _, h⟩
  · cases h with | tup q r => exact ⟨_, _, rfl, q, r⟩
  · exact h.elim
theorem Seen.lst {x : V} {xs : List PV} (hf : Le F H) (h : Seen K C F ρ H x (.lst xs)) : ∃ a vs, x = .ref a ∧ Rd H a (.lst vs) ∧ RepL K C F ρ vs xs := by
  rcases h with h | ⟨a, e, h⟩
  · cases h with | lst q r => exact ⟨_, _, rfl, Rd.le hf q, r⟩
  · obtain ⟨vs, h1, h2⟩ := h; exact ⟨a, vs, e, h1, h2⟩
/-- a new tuple, a new list of what is plain -/
theorem new_tup {Q : VK} {vs : List V} {xs : List PV} (hf : Le F H) (r : RepL K C F ρ vs xs) (h : ∀ F' H' q, Grow F H F' H' → Rep K C F' ρ q (.tup xs) → Q q H') : ∀ p, H p = none → Q (.ref p) (upd H p (.tup vs)) := fun p hp =>
  let g := Grow.one (o := .tup vs) hf hp
  h _ _ _ g (.tup (SqT.of upd_same) (RepL.le g.ff (fun _ _ e => e) r))
theorem new_lst {Q : VK} {vs : List V} {xs : List PV} (hf : Le F H) (r : RepL K C F ρ vs xs) (h : ∀ F' H' q, Grow F H F' H' → Rep K C F' ρ q (.lst xs) → Q q H') : ∀ p, H p = none → Q (.ref p) (upd H p (.lst vs)) := fun p hp =>
  let g := Grow.one (o := .lst vs) hf hp
  h _ _ _ g (.lst (Rd.of upd_same) (RepL.le g.ff (fun _ _ e => e) r))
theorem Rd.sq {a : Addr} {vs : List V} (h : Rd H a (.lst vs)) : SqL K H a vs := .inl h
theorem mill {n : Nat} (h : n ≤ 1000000) : n ≤ sizeLine := Nat.le_trans h (by decide)

/-! ### ints -/
theorem f_int2 {f : PV → PV → Option PV} {Cd : Int → Int → Prop} {g : Int → Int → V} {gp : Int → Int → PV} (hg : ∀ i j F ρ, Rep K C F ρ (g i j) (gp i j)) (hf : ∀ u v z, f u v = some z → ∃ i j, u = .int i ∧ v = .int j ∧ Cd i j ∧ z = gp i j) : ∀ (F H : Hp) (ρ : List Addr) (x y : V) (u v z : PV) (Q : VK), Le F H → Seen K C F ρ H x u → Seen K C F ρ H y v → f u v = some z →
    (∀ F' H' q, Grow F H F' H' → Rep K C F' ρ q z → Q q H') → rI Cd g x y H Q := by
  intro F H ρ x y u v z Q hF hx hy e h
  obtain ⟨i, j, rfl, rfl, hc, rfl⟩ := hf u v z e
  cases hx.int
  cases hy.int
  exact ⟨i, j, rfl, rfl, hc, h F H _ (Grow.refl hF) (hg i j F ρ)⟩
theorem f_int0 {f : PV → PV → Option PV} {g : Int → Int → V} {gp : Int → Int → PV} (hg : ∀ i j F ρ, Rep K C F ρ (g i j) (gp i j)) (hf : ∀ u v z, f u v = some z → ∃ i j, u = .int i ∧ v = .int j ∧ z = gp i j) : ∀ (F H : Hp) (ρ : List Addr) (x y : V) (u v z : PV) (Q : VK), Le F H → Seen K C F ρ H x u → Seen K C F ρ H y v → f u v = some z →
    (∀ F' H' q, Grow F H F' H' → Rep K C F' ρ q z → Q q H') → rI0 g x y H Q := by
  intro F H ρ x y u v z Q hF hx hy e h
  obtain ⟨i, j, rfl, rfl, rfl⟩ := hf u v z e
  cases hx.int
  cases hy.int
  exact ⟨i, j, rfl, rfl, h F H _ (Grow.refl hF) (hg i j F ρ)⟩
theorem s_sub : Op2 K pSub (rI0 fun i j => .int (i - j)) := fun C => f_int0 (gp := fun i j => .int (i - j)) (fun _ _ _ _ => .int _) fun u v z e => by
  cases u <;> cases v <;> first | (cases e; exact ⟨_, _, rfl, rfl, rfl⟩) | cases e
theorem s_lt : Op2 K pLt (rI0 fun i j => .bl (decide (i < j))) := fun C => f_int0 (gp := fun i j => .bl (decide (i < j))) (fun _ _ _ _ => .bl _) fun u v z e => by
  cases u <;> cases v <;> first | (cases e; exact ⟨_, _, rfl, rfl, rfl⟩) | cases e
theorem s_le : Op2 K pLe (rI0 fun i j => .bl (decide (i ≤ j))) := fun C => f_int0 (gp := fun i j => .bl (decide (i ≤ j))) (fun _ _ _ _ => .bl _) fun u v z e => by
  cases u <;> cases v <;> first | (cases e; exact ⟨_, _, rfl, rfl, rfl⟩) | cases e
theorem s_gt : Op2 K pGt (rI0 fun i j => .bl (decide (j < i))) := fun C => f_int0 (gp := fun i j => .bl (decide (j < i))) (fun _ _ _ _ => .bl _) fun u v z e => by
  cases u <;> cases v <;> first | (cases e; exact ⟨_, _, rfl, rfl, rfl⟩) | cases e
theorem s_ge : Op2 K pGe (rI0 fun i j => .bl (decide (j ≤ i))) := fun C => f_int0 (gp := fun i j => .bl (decide (j ≤ i))) (fun _ _ _ _ => .bl _) fun u v z e => by
  cases u <;> cases v <;> first | (cases e; exact ⟨_, _, rfl, rfl, rfl⟩) | cases e
theorem s_mod : Op2 K pMod (rI (fun _ j => 0 < j) fun i j => .int (i % j)) := fun C => f_int2 (gp := fun i j => .int (i % j)) (fun _ _ _ _ => .int _) fun u v z e => by
  cases u with
  | int i =>
    cases v with
    | int j =>
      unfold pMod at e
      dsimp only at e
      split at e
      · cases e; exact ⟨_, _, rfl, rfl, by assumption, rfl⟩
      · cases e
    | _ => cases e
  | _ => cases e
theorem s_div : Op2 K pDiv (rI CDiv fun i j => .int (i / j)) := fun C => f_int2 (gp := fun i j => .int (i / j)) (fun _ _ _ _ => .int _) fun u v z e => by
  cases u with
  | int i =>
    cases v with
    | int j =>
      unfold pDiv at e
      dsimp only at e
      split at e
      · cases e; exact ⟨_, _, rfl, rfl, by assumption, rfl⟩
      · cases e
    | _ => cases e
  | _ => cases e
theorem s_pow : Op2 K pPow (rI CPow fun i j => .int (i ^ j.toNat)) := fun C => f_int2 (gp := fun i j => .int (i ^ j.toNat)) (fun _ _ _ _ => .int _) fun u v z e => by
  cases u with
  | int i =>
    cases v with
    | int j =>
      unfold pPow at e
      dsimp only at e
      split at e
      · cases e; exact ⟨_, _, rfl, rfl, by assumption, rfl⟩
      · cases e
    | _ => cases e
  | _ => cases e
theorem s_neg : Op1 K pNeg (rU fun i => .int (-i)) := by
  intro C F H ρ x u z Q hF hx e h
  cases u <;> first | (cases e; done) | (cases e; cases hx.int; exact ⟨_, rfl, h F H _ (Grow.refl hF) (.int _)⟩)
theorem s_abs : Op1 K pAbs fun x H Q => ∃ i, [x] = [V.int i] ∧ Q (.int (if i < 0 then -i else i)) H := by
  intro C F H ρ x u z Q hF hx e h
  cases u <;> first | (cases e; done) | (cases e; cases hx.int; exact ⟨_, rfl, h F H _ (Grow.refl hF) (.int _)⟩)
theorem s_max2 : Op2 K pMax2 fun x y H Q => ∃ i j, [x, y] = [V.int i, .int j] ∧ Q (.int (if j > i then j else i)) H := by
  intro C F H ρ x y u v z Q hF hx hy e h
  cases u <;> cases v <;> first | (cases e; done) | (cases e; cases hx.int; cases hy.int; exact ⟨_, _, rfl, h F H _ (Grow.refl hF) (.int _)⟩)
theorem s_min2 : Op2 K pMin2 fun x y H Q => ∃ i j, [x, y] = [V.int i, .int j] ∧ Q (.int (if j < i then j else i)) H := by
  intro C F H ρ x y u v z Q hF hx hy e h
  cases u <;> cases v <;> first | (cases e; done) | (cases e; cases hx.int; cases hy.int; exact ⟨_, _, rfl, h F H _ (Grow.refl hF) (.int _)⟩)

/-! ### + and * -/
theorem Inv.lstR {pins : List (Addr × Obj)} {σ : L2.St} {s : Shared} {l : Addr} {xs : List V} (I : Inv X pins σ H s) (h : Rd H l (.lst xs)) : xs.length ≤ sizeLine ∧ ∃ (its : List Value) (n : Nat), Vals xs its ∧ xs.length = its.length ∧ s.heap.get? l = some { cls := .type "list", data := .seq its.toArray n } := by
  obtain ⟨z, its, n, r, e⟩ := h.ok I.hok
  exact ⟨z, its, n, r, r.length, e⟩
def rCatR : R2 := fun x y H Q => ∃ l b xs zs, x = .ref l ∧ y = .ref b ∧ Rd H l (.lst xs) ∧ Rd H b (.lst zs) ∧ xs.length + zs.length ≤ sizeLine ∧ ∀ p, H p = none → Q (.ref p) (upd H p (.lst (xs ++ zs)))
theorem op_catR : OpR X (binaryOp .Add) rCatR := by
  intro pins s σ H x y v u Q I rx ry h
  obtain ⟨l, b, xs, zs, rfl, rfl, hH, hB, hz, q⟩ := h
  cases rx
  cases ry
  obtain ⟨z, its, n, r, hl, e⟩ := Inv.lstR I hH
  obtain ⟨z2, its2, n2, r2, hl2, e2⟩ := Inv.lstR I hB
  refine PySem.P.add_list e e2 ?_ (by rw [List.size_toArray, List.size_toArray]; omega)
  have ea : its.toArray ++ its2.toArray = (its ++ its2).toArray := by simp
  rw [ea]
  exact ⟨.ref _, _, I.lnew (t' := s.toks) (r.append r2) (by rw [List.length_append]; omega), rfl, q _ I.fresh⟩
def rAddX (K : PySem.W.Frag) : R2 := fun x y H Q => (rI0 (fun i j => V.int (i + j)) x y H Q ∨ rCatR x y H Q) ∨ rCatA K x y H Q
theorem o_add : OpR X (binaryOp .Add) (rAddX X.K) := (op_add.or op_catR).or op_catA
theorem s_add : Op2 K pAdd (rAddX K) := by
  intro C F H ρ x y u v z Q hF hx hy e h
  cases u <;> cases v <;> first | (cases e; done) | skip
  · cases e
    cases hx.int
    cases hy.int
    exact .inl (.inl ⟨_, _, rfl, rfl, h F H _ (Grow.refl hF) (.int _)⟩)
  · unfold pAdd at e
    dsimp only at e
    split at e
    · cases e
      rename_i hl
      obtain ⟨a, vs, rfl, q, r⟩ := hx.tup
      obtain ⟨b, ws, rfl, q2, r2⟩ := hy.tup
      refine .inr ⟨a, b, vs, ws, rfl, rfl, SqT.le hF q, SqT.le hF q2, by rw [r.length, r2.length]; exact mill hl, fun n => ?_, fun _ n => ?_, fun _ _ => new_tup hF (r.append r2) h⟩
      · subst n
        cases r
        exact h F H _ (Grow.refl hF) (.tup q2 r2)
      · subst n
        cases r2
        exact h F H _ (Grow.refl hF) (.tup q (by rw [List.append_nil]; exact r))
    · cases e
  · unfold pAdd at e
    dsimp only at e
    split at e
    · cases e
      rename_i hl
      obtain ⟨a, vs, rfl, q, r⟩ := hx.lst hF
      obtain ⟨b, ws, rfl, q2, r2⟩ := hy.lst hF
      exact .inl (.inr ⟨a, b, vs, ws, rfl, rfl, q, q2, by rw [r.length, r2.length]; exact mill hl, new_lst hF (r.append r2) h⟩)
    · cases e
theorem RepL.rep {vs : List V} {xs : List PV} (r : RepL K C F ρ vs xs) : ∀ k : Nat, RepL K C F ρ (List.replicate k vs).flatten (List.replicate k xs).flatten
  | 0 => .nil
  | k + 1 => by
    rw [List.replicate_succ, List.replicate_succ, List.flatten_cons, List.flatten_cons]
    exact r.append (RepL.rep r k)
def rRepR : R2 := fun x y H Q => ∃ l k xs, x = .ref l ∧ y = .int k ∧ Rd H l (.lst xs) ∧ -(2 ^ 63) ≤ k ∧ k < 2 ^ 63 ∧ xs.length * k.toNat ≤ sizeLine ∧
  ∀ p, H p = none → Q (.ref p) (upd H p (.lst (List.replicate k.toNat xs).flatten))
theorem op_repR : OpR X (binaryOp .Mult) rRepR := by
  intro pins s σ H x y v u Q I rx ry h
  obtain ⟨l, k, xs, rfl, rfl, hH, h1, h2, hz, q⟩ := h
  cases rx
  obtain ⟨t, rfl⟩ := ry
  obtain ⟨z, its, n, r, hl, e⟩ := Inv.lstR I hH
  have hlen : its.toArray.size * k.toNat ≤ sizeLine := by rw [List.size_toArray, ← hl]; exact hz
  have hcap : ¬ its.toArray.size * k.toNat > (2 ^ 63 - 1) / 8 := by
    have : (sizeLine : Nat) ≤ (2 ^ 63 - 1) / 8 := by decide
    omega
  have hfit : ¬ (!Builtin.List.listFitsIndex k) = true := by
    rw [fitsIndex_both h1 h2]
    exact Bool.false_ne_true
  have hlong : ¬ Builtin.List.listTooLong (its.toArray.size * k.toNat) = true := by
    rw [notLongL hlen]
    exact Bool.false_ne_true
  have hnew : List.foldl (fun x1 x2 => x1 ++ x2) #[] (List.replicate (if its.toArray.isEmpty = true then 0 else k.toNat) its.toArray) = (List.replicate k.toNat its).flatten.toArray := by
    have f0 : ∀ m : Nat, List.foldl (fun x1 x2 => x1 ++ x2) #[] (List.replicate m its.toArray) = (List.replicate m its).flatten.toArray := fun m => by
      have := foldl_rep its m []
      rw [List.nil_append] at this
      exact this
    rw [f0]
    cases its with
    | nil => simp
    | cons a r' => rw [if_neg (by simp)]
  refine wpAny_binaryOp_repeat_ref (T := "list") (U := "int") (by decide) ⟨_, e, rfl⟩ (fun s' => typeIs_int s' k t) noFill_list_mul F.fills_int_mul F.slot_int_rmul repeat_list F.slot_int_index.lookup
    (call_meets F.slot_int_rmul (typeIs_int s k t) F.entry_int_rmul (F.args_int_rmul_2 _ _) (int___rmul___int_list k t l its.toArray n)
      ⟨e, rfl, ⟨_, e, rfl⟩, call_meets F.slot_list_mul ⟨_, e, rfl⟩ F.entry_list_mul (F.args_list_mul_2 _ _) (AutoListH.list___mul___list_int_3 l its.toArray n k t hfit hcap hlong) ⟨e, ?_⟩⟩)
  rw [hnew]
  exact ⟨.ref _, _, I.lnew (t' := s.toks) (r.rep k.toNat) (by rw [PyProof.Rows.lm_len_rep_flat, Nat.mul_comm]; exact hz), rfl, q _ I.fresh⟩
def rMulX (K : PySem.W.Frag) : R2 := fun x y H Q => (rI CMul (fun i j => V.int (i * j)) x y H Q ∨ rRepR x y H Q) ∨ rRepT K x y H Q
theorem o_mul : OpR X (binaryOp .Mult) (rMulX X.K) := (op_mul.or op_repR).or op_repT
theorem cmulB_ok {i j : Int} (h : cmulB i j = true) : CMul i j := by
  unfold cmulB at h
  simp only [Bool.or_eq_true, Bool.and_eq_true, decide_eq_true_eq] at h
  exact h
theorem s_mul : Op2 K pMul (rMulX K) := by
  intro C F H ρ x y u v z Q hF hx hy e h
  cases u <;> cases v <;> first | (cases e; done) | skip
  · unfold pMul at e
    dsimp only at e
    split at e
    · cases e
      rename_i hc
      cases hx.int
      cases hy.int
      exact .inl (.inl ⟨_, _, rfl, rfl, cmulB_ok hc, h F H _ (Grow.refl hF) (.int _)⟩)
    · cases e
  · unfold pMul at e
    dsimp only at e
    split at e
    · cases e
      rename_i hc
      simp only [Bool.and_eq_true, decide_eq_true_eq, Bool.not_eq_true'] at hc
      obtain ⟨⟨⟨h0, h1⟩, h2⟩, h3⟩ := hc
      obtain ⟨a, vs, rfl, q, r⟩ := hx.tup
      cases hy.int
      have hl := r.length
      refine .inr ⟨a, _, vs, rfl, rfl, SqT.le hF q, fun n => ?_, h1, h2, by omega, new_tup hF (r.rep _) h⟩
      subst n
      cases r
      cases h0
    · split at e <;> cases e
  · unfold pMul at e
    dsimp only at e
    split at e
    · cases e
      rename_i hc
      simp only [Bool.and_eq_true, decide_eq_true_eq] at hc
      obtain ⟨⟨h1, h2⟩, h3⟩ := hc
      obtain ⟨a, vs, rfl, q, r⟩ := hx.lst hF
      cases hy.int
      exact .inl (.inr ⟨a, _, vs, rfl, rfl, q, h1, h2, by rw [r.length]; exact mill h3, new_lst hF (r.rep _) h⟩)
    · cases e

/-! ### == and != -/
mutual
theorem eq_dat : ∀ (u v : PV) (n m : Nat), u.sh n = true → v.sh m = true → PyData.eqv u.dat v.dat = u.eq v
  | .tup xs, .tup ys, n, m, h1, h2 => by
    cases n with
    | zero => cases h1
    | succ n =>
      cases m with
      | zero => cases h2
      | succ m => exact eqL_dat xs ys n m h1 h2
  | .lst xs, .lst ys, n, m, h1, h2 => by
    cases n with
    | zero => cases h1
    | succ n =>
      cases m with
      | zero => cases h2
      | succ m => exact eqL_dat xs ys n m h1 h2
  | .dI _, _, n, _, h, _ => by cases n <;> cases h
  | .dT _, _, n, _, h, _ => by cases n <;> cases h
  | .exc _, _, n, _, h, _ => by cases n <;> cases h
  | .ptr _, _, n, _, h, _ => by cases n <;> cases h
  | .kls _, _, n, _, h, _ => by cases n <;> cases h
  | u, .dI _, _, m, _, h => by cases m <;> cases h
  | u, .dT _, _, m, _, h => by cases m <;> cases h
  | u, .exc _, _, m, _, h => by cases m <;> cases h
  | u, .ptr _, _, m, _, h => by cases m <;> cases h
  | u, .kls _, _, m, _, h => by cases m <;> cases h
  | .non, .non, _, _, _, _ => rfl
  | .non, .bl _, _, _, _, _ => rfl
  | .non, .int _, _, _, _, _ => rfl
  | .non, .str _, _, _, _, _ => rfl
  | .non, .tup _, _, _, _, _ => rfl
  | .non, .lst _, _, _, _, _ => rfl
  | .bl _, .non, _, _, _, _ => rfl
  | .bl _, .bl _, _, _, _, _ => rfl
  | .bl _, .int _, _, _, _, _ => rfl
  | .bl _, .str _, _, _, _, _ => rfl
  | .bl _, .tup _, _, _, _, _ => rfl
  | .bl _, .lst _, _, _, _, _ => rfl
  | .int _, .non, _, _, _, _ => rfl
  | .int _, .bl _, _, _, _, _ => rfl
  | .int _, .int _, _, _, _, _ => rfl
  | .int _, .str _, _, _, _, _ => rfl
  | .int _, .tup _, _, _, _, _ => rfl
  | .int _, .lst _, _, _, _, _ => rfl
  | .str _, .non, _, _, _, _ => rfl
  | .str _, .bl _, _, _, _, _ => rfl
  | .str _, .int _, _, _, _, _ => rfl
  | .str _, .str _, _, _, _, _ => rfl
  | .str _, .tup _, _, _, _, _ => rfl
  | .str _, .lst _, _, _, _, _ => rfl
  | .tup _, .non, _, _, _, _ => rfl
  | .tup _, .bl _, _, _, _, _ => rfl
  | .tup _, .int _, _, _, _, _ => rfl
  | .tup _, .str _, _, _, _, _ => rfl
  | .tup _, .lst _, _, _, _, _ => rfl
  | .lst _, .non, _, _, _, _ => rfl
  | .lst _, .bl _, _, _, _, _ => rfl
  | .lst _, .int _, _, _, _, _ => rfl
  | .lst _, .str _, _, _, _, _ => rfl
  | .lst _, .tup _, _, _, _, _ => rfl
termination_by structural u => u
theorem eqL_dat : ∀ (xs ys : List PV) (n m : Nat), PV.shL xs n = true → PV.shL ys m = true → PyData.eqvAll (PV.datL xs) (PV.datL ys) = PV.eqL xs ys
  | [], [], _, _, _, _ => rfl
  | [], _ :: _, _, _, _, _ => rfl
  | _ :: _, [], _, _, _, _ => rfl
  | x :: xs, y :: ys, n, m, h1, h2 => by
    have h1 : (x.sh n && PV.shL xs n) = true := h1
    have h2 : (y.sh m && PV.shL ys m) = true := h2
    obtain ⟨a1, a2⟩ := Bool.and_eq_true_iff.mp h1
    obtain ⟨b1, b2⟩ := Bool.and_eq_true_iff.mp h2
    show PyData.eqvAll (x.dat :: PV.datL xs) (y.dat :: PV.datL ys) = (x.eq y && PV.eqL xs ys)
    rw [PyData.eqvAll, eq_dat x y n m a1 b1, eqL_dat xs ys n m a2 b2]
termination_by structural u => u
end
mutual
theorem sh_dat : ∀ (u : PV) (n : Nat), u.sh n = true → u.dat.canLay0 = true ∧ u.dat.depth ≤ n
  | .non, _, _ => ⟨rfl, Nat.zero_le _⟩
  | .bl _, _, _ => ⟨rfl, Nat.zero_le _⟩
  | .int _, _, _ => ⟨rfl, Nat.zero_le _⟩
  | .str x, _, h => ⟨h, Nat.zero_le _⟩
  | .tup xs, n, h => by
    cases n with
    | zero => cases h
    | succ n =>
      obtain ⟨a, b⟩ := shL_dat xs n h
      exact ⟨a, Nat.succ_le_succ b⟩
  | .lst xs, n, h => by
    cases n with
    | zero => cases h
    | succ n =>
      obtain ⟨a, b⟩ := shL_dat xs n h
      exact ⟨a, Nat.succ_le_succ b⟩
  | .dI _, n, h => by cases n <;> cases h
  | .dT _, n, h => by cases n <;> cases h
  | .exc _, n, h => by cases n <;> cases h
  | .ptr _, n, h => by cases n <;> cases h
  | .kls _, n, h => by cases n <;> cases h
termination_by structural u => u
theorem shL_dat : ∀ (u : List PV) (n : Nat), PV.shL u n = true → PyData.canLayAll0 (PV.datL u) = true ∧ PyData.depthAll (PV.datL u) ≤ n
  | [], n, _ => ⟨rfl, Nat.zero_le _⟩
  | x :: xs, n, h => by
    have h : (x.sh n && PV.shL xs n) = true := h
    obtain ⟨a1, a2⟩ := Bool.and_eq_true_iff.mp h
    obtain ⟨b1, b2⟩ := sh_dat x n a1
    obtain ⟨c1, c2⟩ := shL_dat xs n a2
    refine ⟨?_, ?_⟩
    · show PyData.canLayAll0 (x.dat :: PV.datL xs) = true
      rw [PyData.canLayAll0, b1, c1] <;> rfl
    · show PyData.depthAll (x.dat :: PV.datL xs) ≤ n
      rw [PyData.depthAll]
      exact Nat.max_le.mpr ⟨b2, c2⟩
termination_by structural u => u
end
theorem sh_shaped {u : PV} (h : u.sh 16 = true) : SeqAt.shaped u.dat = true := by
  obtain ⟨a, b⟩ := sh_dat u 16 h
  unfold SeqAt.shaped
  rw [a, Bool.true_and, decide_eq_true_eq]
  omega
mutual
theorem rep_dp (hF : Le F H) : ∀ {x : V} {u : PV} (n : Nat), Rep K C F ρ x u → u.sh n = true → Dp K H x u.dat
  | _, _, _, .non, _ => .non
  | _, _, _, .bl b, _ => .bl b
  | _, _, _, .int b, _ => .int b
  | _, _, _, .str b, _ => .str b
  | _, _, n, .tup q r, h => by
    cases n with
    | zero => cases h
    | succ n => exact .tup (SqT.le hF q) (repL_dp hF n r h)
  | _, _, n, .lst q r, h => by
    cases n with
    | zero => cases h
    | succ n => exact .lst (.inl (Rd.le hF q)) (repL_dp hF n r h)
  | _, _, n, .dI _ _, h => by cases n <;> cases h
  | _, _, n, .dT _ _, h => by cases n <;> cases h
  | _, _, n, .exc _, h => by cases n <;> cases h
  | _, _, n, .ptr _, h => by cases n <;> cases h
  | _, _, n, .kls _, h => by cases n <;> cases h
theorem repL_dp (hF : Le F H) : ∀ {x : List V} {u : List PV} (n : Nat), RepL K C F ρ x u → PV.shL u n = true → DpAll K H x (PV.datL u)
  | _, _, _, .nil, _ => .nil
  | _, _, n, .cons r s, h => .cons (rep_dp hF n r (Bool.and_eq_true_iff.mp h).1) (repL_dp hF n s (Bool.and_eq_true_iff.mp h).2)
end
theorem seen_dp {x : V} {u : PV} {n : Nat} (hF : Le F H) (h : Seen K C F ρ H x u) (s : u.sh n = true) : Dp K H x u.dat := by
  rcases h with h | ⟨a, rfl, h⟩
  · exact rep_dp hF n h s
  · cases u with
    | lst xs =>
      obtain ⟨vs, h1, h2⟩ := h
      cases n with
      | zero => cases s
      | succ n => exact .lst (.inl h1) (repL_dp hF n h2 s)
    | dI _ => cases n <;> cases s
    | dT _ => cases n <;> cases s
    | _ => exact h.elim
theorem s_eq : Op2 K pEq (rEqD K) := by
  intro C F H ρ x y u v z Q hF hx hy e h
  unfold pEq at e
  split at e
  · rename_i hs
    obtain ⟨a, b⟩ := Bool.and_eq_true_iff.mp hs
    cases e
    refine ⟨u.dat, v.dat, seen_dp hF hx a, seen_dp hF hy b, sh_shaped a, sh_shaped b, ?_⟩
    rw [eq_dat u v 16 16 a b]
    exact h F H _ (Grow.refl hF) (.bl _)
  · cases e
theorem s_ne : Op2 K pNe (rNeD K) := by
  intro C F H ρ x y u v z Q hF hx hy e h
  unfold pNe at e
  split at e
  · rename_i hs
    obtain ⟨a, b⟩ := Bool.and_eq_true_iff.mp hs
    cases e
    refine ⟨u.dat, v.dat, seen_dp hF hx a, seen_dp hF hy b, sh_shaped a, sh_shaped b, ?_⟩
    rw [eq_dat u v 16 16 a b]
    exact h F H _ (Grow.refl hF) (.bl _)
  · cases e
def rIsX : R2 := fun x y H Q => (y = .non ∧ Q (.bl (decide (x = .non))) H) ∨ (∃ a b, x = .bl a ∧ y = .bl b ∧ Q (.bl (decide (a = b))) H)
def rIsNotX : R2 := fun x y H Q => (y = .non ∧ Q (.bl (!decide (x = .non))) H) ∨ (∃ a b, x = .bl a ∧ y = .bl b ∧ Q (.bl (!decide (a = b))) H)
theorem o_is : OpR X (compareOp .Is) rIsX := op_isN.or op_is_bl
theorem o_isnot : OpR X (compareOp .IsNot) rIsNotX := op_notN.or op_isnot_bl
theorem Seen.isnon {x : V} {u : PV} (h : Seen K C F ρ H x u) : decide (x = .non) = (match u with | .non => true | _ => false) := by
  rcases h with h | ⟨a, rfl, h⟩
  · cases h <;> rfl
  · cases u <;> first | rfl | exact h.elim
theorem s_is : Op2 K pIs rIsX := by
  intro C F H ρ x y u v z Q hF hx hy e h
  cases v with
  | non =>
    have hy := hy.non
    subst hy
    refine .inl ⟨rfl, ?_⟩
    rw [hx.isnon]
    cases u <;> (cases e; exact h F H _ (Grow.refl hF) (.bl _))
  | bl b =>
    cases u with
    | bl a =>
      cases e
      exact .inr ⟨_, _, hx.bl, hy.bl, h F H _ (Grow.refl hF) (.bl _)⟩
    | _ => cases e
  | _ => cases u <;> cases e
theorem s_isnot : Op2 K pIsNot rIsNotX := by
  intro C F H ρ x y u v z Q hF hx hy e h
  cases v with
  | non =>
    have hy := hy.non
    subst hy
    refine .inl ⟨rfl, ?_⟩
    rw [hx.isnon]
    cases u <;> (cases e; exact h F H _ (Grow.refl hF) (.bl _))
  | bl b =>
    cases u with
    | bl a =>
      cases e
      exact .inr ⟨_, _, hx.bl, hy.bl, h F H _ (Grow.refl hF) (.bl _)⟩
    | _ => cases e
  | _ => cases u <;> cases e

/-! ### len, all, any, tuple, list, items -/
theorem s_len : Op1 K pLen fun x H Q => ∃ p ys, [x] = [V.ref p] ∧ (SqL K H p ys ∨ SqT K H p ys) ∧ Q (.int ys.length) H := by
  intro C F H ρ x u z Q hF hx e h
  cases u with
  | lst xs =>
    cases e
    obtain ⟨a, vs, rfl, q, r⟩ := hx.lst hF
    exact ⟨a, vs, rfl, .inl (.inl q), by rw [r.length]; exact h F H _ (Grow.refl hF) (.int _)⟩
  | tup xs =>
    cases e
    obtain ⟨a, vs, rfl, q, r⟩ := hx.tup
    exact ⟨a, vs, rfl, .inr (SqT.le hF q), by rw [r.length]; exact h F H _ (Grow.refl hF) (.int _)⟩
  | _ => cases e
theorem blsOf_some : ∀ {xs : List PV} {bs : List Bool}, blsOf xs = some bs → xs = bs.map .bl
  | [], _, h => by cases h; rfl
  | .bl b :: r, _, h => by
    obtain ⟨s, h1, rfl⟩ := Option.map_eq_some_iff.mp (show (blsOf r).map (fun s => b :: s) = some _ from h)
    rw [blsOf_some h1]; rfl
  | .non :: _, _, h => by cases h
  | .int _ :: _, _, h => by cases h
  | .str _ :: _, _, h => by cases h
  | .tup _ :: _, _, h => by cases h
  | .lst _ :: _, _, h => by cases h
  | .dI _ :: _, _, h => by cases h
  | .dT _ :: _, _, h => by cases h
  | .exc _ :: _, _, h => by cases h
  | .ptr _ :: _, _, h => by cases h
theorem blsOf_map (bs : List Bool) : blsOf (bs.map .bl) = some bs := by
  induction bs with
  | nil => rfl
  | cons b bs ih => show (blsOf (bs.map .bl)).map (fun s => b :: s) = _; rw [ih]; rfl
theorem s_all : Op1 K pAll fun x H Q => rAll K [x] H Q := by
  intro C F H ρ x u z Q hF hx e h
  cases u with
  | lst xs =>
    obtain ⟨bs, h1, rfl⟩ := Option.map_eq_some_iff.mp (show (blsOf xs).map (fun bs => PV.bl (bs.all id)) = some z from e)
    obtain ⟨a, vs, rfl, q, r⟩ := hx.lst hF
    rw [blsOf_some h1] at r
    cases r.bls_inv
    exact ⟨a, bs, rfl, .inl q, h F H _ (Grow.refl hF) (.bl _)⟩
  | _ => cases e
theorem s_any : Op1 K pAny fun x H Q => rAny K [x] H Q := by
  intro C F H ρ x u z Q hF hx e h
  cases u with
  | lst xs =>
    obtain ⟨bs, h1, rfl⟩ := Option.map_eq_some_iff.mp (show (blsOf xs).map (fun bs => PV.bl (bs.any id)) = some z from e)
    obtain ⟨a, vs, rfl, q, r⟩ := hx.lst hF
    rw [blsOf_some h1] at r
    cases r.bls_inv
    exact ⟨a, bs, rfl, .inl q, h F H _ (Grow.refl hF) (.bl _)⟩
  | _ => cases e
theorem s_tuple : Op1 K pTuple fun x H Q => ∃ p ys, [x] = [V.ref p] ∧ ((SqL K H p ys ∧ ∀ l, H l = none → Q (.ref l) (upd H l (.tup ys))) ∨ (SqT K H p ys ∧ Q (.ref p) H)) := by
  intro C F H ρ x u z Q hF hx e h
  cases u with
  | lst xs =>
    cases e
    obtain ⟨a, vs, rfl, q, r⟩ := hx.lst hF
    exact ⟨a, vs, rfl, .inl ⟨.inl q, new_tup hF r h⟩⟩
  | tup xs =>
    cases e
    obtain ⟨a, vs, rfl, q, r⟩ := hx.tup
    exact ⟨a, vs, rfl, .inr ⟨SqT.le hF q, h F H _ (Grow.refl hF) (.tup q r)⟩⟩
  | _ => cases e
theorem s_list : Op1 K pList fun x H Q => ∃ p ys, [x] = [V.ref p] ∧ (SqL K H p ys ∨ SqT K H p ys) ∧ ∀ l, H l = none → Q (.ref l) (upd H l (.lst ys)) := by
  intro C F H ρ x u z Q hF hx e h
  cases u with
  | lst xs =>
    cases e
    obtain ⟨a, vs, rfl, q, r⟩ := hx.lst hF
    exact ⟨a, vs, rfl, .inl (.inl q), new_lst hF r h⟩
  | tup xs =>
    cases e
    obtain ⟨a, vs, rfl, q, r⟩ := hx.tup
    exact ⟨a, vs, rfl, .inr (SqT.le hF q), new_lst hF r h⟩
  | _ => cases e
theorem atI_rep {vs : List V} {xs : List PV} {i : Int} {z : PV} (r : RepL K C F ρ vs xs) (h : atI xs i = some z) : ∃ v, atI vs i = some v ∧ Rep K C F ρ v z := by
  unfold atI at h ⊢
  obtain ⟨j, h1, h2⟩ := Option.bind_eq_some_iff.mp h
  obtain ⟨v, h3, h4⟩ := r.get h2
  exact ⟨v, by rw [r.length, h1]; exact h3, h4⟩
def rIxX (K : PySem.W.Frag) : R2 := fun x y H Q => rIxL K x y H Q ∨ rIxT K x y H Q
theorem o_ix : IxR X (rIxX X.K) := ix_list.or ix_tup
theorem s_ix : Op2 K pIdx (rIxX K) := by
  intro C F H ρ x y u v z Q hF hx hy e h
  cases u with
  | lst xs =>
    cases v with
    | int i =>
      obtain ⟨a, vs, rfl, q, r⟩ := hx.lst hF
      obtain ⟨v, h1, h2⟩ := atI_rep r (show atI xs i = some z from e)
      exact .inl ⟨a, vs, i, v, rfl, hy.int, .inl q, h1, h F H _ (Grow.refl hF) h2⟩
    | _ => cases e
  | tup xs =>
    cases v with
    | int i =>
      obtain ⟨a, vs, rfl, q, r⟩ := hx.tup
      obtain ⟨v, h1, h2⟩ := atI_rep r (show atI xs i = some z from e)
      exact .inr ⟨a, vs, i, v, rfl, hy.int, SqT.le hF q, h1, h F H _ (Grow.refl hF) h2⟩
    | _ => cases e
  | _ => cases e
end
end Hw

set_option maxRecDepth 100000
set_option maxHeartbeats 4000000
namespace Hw
open PySem PySem.Spec L2

/-! ### objects that change -/
def eBox (d : Ex) : Ex := fun env S => (d env S).bind fun v S => .ok (.ptr S.length) (S ++ [v])
def sFz (i : Nat) : Sm := fun env S => match env[i]? with
  | some (.own (.lst xs)) => .nx (env.set i (.v (.lst xs))) S
  | some (.v x) => .nx env S
  | _ => .bad
def appP (u v : PV) : Option PV := match u with
  | .lst xs => if xs.length ≤ 1000000 then some (.lst (xs ++ [v])) else none
  | _ => none
def setP (u k v : PV) : Option PV := match u, k with
  | .lst xs, .int i => (ixN xs.length i).map fun j => .lst (xs.set j v)
  | _, _ => none
def isL : PV → Bool
  | .lst _ => true
  | _ => false
def sApp (i : Nat) (d : Ex) : Sm := fun env S => match env[i]? with
  | some (.own (.lst xs)) => match d env S with
    | .ok v S => match appP (.lst xs) v with
      | some u' => .nx (env.set i (.own u')) S
      | none => .bad
    | .ex c S => .ex c env S
    | .bad => .bad
  | _ => .bad
def sAppC (o d : Ex) : Sm := fun env S => match o env S with
  | .ok (.ptr n) S => match S[n]? with
    | some (.lst _) => match d env S with
      | .ok v S => match S[n]? with
        | some u => match appP u v with
          | some u' => .nx env (S.set n u')
          | none => .bad
        | none => .bad
      | .ex c S => .ex c env S
      | .bad => .bad
    | _ => .bad
  | .ok _ _ => .bad
  | .ex c S => .ex c env S
  | .bad => .bad
def sSetI (i : Nat) (k d : Ex) : Sm := fun env S => match d env S with
  | .ok v S => match env[i]? with
    | some (.own u) => match k env S with
      | .ok kv S => match setP u kv v with
        | some u' => .nx (env.set i (.own u')) S
        | none => .bad
      | .ex c S => .ex c env S
      | .bad => .bad
    | _ => .bad
  | .ex c S => .ex c env S
  | .bad => .bad
def sSetC (o k d : Ex) : Sm := fun env S => match d env S with
  | .ok v S => match o env S with
    | .ok (.ptr n) S => match k env S with
      | .ok kv S => match S[n]? with
        | some u => match setP u kv v with
          | some u' => .nx env (S.set n u')
          | none => .bad
        | none => .bad
      | .ex c S => .ex c env S
      | .bad => .bad
    | .ok _ _ => .bad
    | .ex c S => .ex c env S
    | .bad => .bad
  | .ex c S => .ex c env S
  | .bad => .bad
/-- the list without the item at a place, the item -/
def popP (u k : PV) : Option (PV × PV) := match u, k with
  | .lst xs, .int i => if decide (-(2 ^ 63) ≤ i) && decide (i < 2 ^ 63) then (seqIndex? i xs.length).bind fun j => (xs[j]?).map fun y => (.lst (xs.eraseIdx j), y) else none
  | _, _ => none
/-- x = l.pop(k) -/
def sPop (t i : Nat) (k : Ex) : Sm := fun env S => match env[i]? with
  | some (.own (.lst xs)) => match k env S with
    | .ok kv S => match popP (.lst xs) kv with
      | some (u', y) => match setV t (.v y) (env.set i (.own u')) with
        | some env => if t = i then .bad else .nx env S
        | none => .bad
      | none => .bad
    | .ex c S => .ex c env S
    | .bad => .bad
  | _ => .bad

section
variable {X : Cx} {C : Kx → Addr} {E : WX} {a b c e tg : Expr} {da db dc : Ex} {sa sb sc : Sm} {pos : Pos} {st : Stmt} {sts : List Stmt} {K : PySem.W.Frag} {w w' : Wd} {env env' : En} {S S' : Sto} {σ σ' : L2.St} {H H' : Hp} {D : Ends}
/-- a new object becomes a cell -/
theorem Sim.box (s : Sim K C w env S σ H) {p : Addr} {v : PV} (fr : Fr1 w p) (nm : NotMine env σ p) (o : ObjR K C w H p v) : Sim K C { w with ρ := w.ρ ++ [p] } env (S ++ [v]) σ H ∧ w.le { w with ρ := w.ρ ++ [p] } := by
  have le : w.le { w with ρ := w.ρ ++ [p] } := ⟨Le.refl _, rfl, rfl, [p], rfl⟩
  refine ⟨⟨s.f, s.b, s.fb, s.lb, s.le, fun i x e => ?_, s.od, by simp [s.ln], ?_, fun n c a e1 e2 => ?_⟩, le⟩
  · have z := s.sl i x e
    cases x with
    | un => trivial
    | v y => obtain ⟨u, h1, h2⟩ := z; exact ⟨u, h1, RepW.up le h2⟩
    | own y =>
      obtain ⟨a, h1, h2, h3⟩ := z
      refine ⟨a, h1, ⟨h2.f, h2.b, fun hm => ?_⟩, h3.up le fun _ e => e⟩
      rcases List.mem_append.mp hm with h | h
      · exact h2.r h
      · rw [List.mem_singleton] at h
        exact nm i _ e rfl (by rw [← h]; exact h1)
    | lk y =>
      obtain ⟨a, h0, h1, h2⟩ := z
      exact ⟨a, h0, h1, h2.up le fun _ e => e⟩
  · show (w.ρ ++ [p]).Nodup
    rw [List.nodup_append]
    refine ⟨s.nd, by simp, fun a ha b hb => ?_⟩
    rw [List.mem_singleton] at hb
    subst hb
    rintro rfl
    exact fr.r ha
  · by_cases hn : n < S.length
    · rw [List.getElem?_append_left hn] at e1
      have e2 : (w.ρ ++ [p])[n]? = some a := e2
      rw [List.getElem?_append_left (by rw [s.ln]; exact hn)] at e2
      obtain ⟨h1, h2, h3⟩ := s.cl n c a e1 e2
      exact ⟨h1, h2, h3.up le fun _ e => e⟩
    · have e2 : (w.ρ ++ [p])[n]? = some a := e2
      rw [List.getElem?_append_right (by omega)] at e1
      rw [List.getElem?_append_right (by rw [s.ln]; omega)] at e2
      have hz : n - S.length = 0 := by
        have := (List.getElem?_eq_some_iff.mp e1).1
        simp at this
        omega
      rw [hz] at e1
      rw [s.ln, hz] at e2
      cases e1
      cases e2
      exact ⟨fr.f, fr.b, o.up le fun _ e => e⟩
theorem h_box {d : Ex} (h : PE X e (rN X.K C E d)) : PE X e (rE X.K C E (eBox d)) := by
  refine h.imp ?_
  rintro σ H Q ⟨w, env, S, s, h⟩
  unfold eBox at h
  refine ⟨w, env, S, s, h.bind.mono fun v S1 w1 H1 le s1 h1 p fr nm o => ?_⟩
  obtain ⟨s2, le2⟩ := s1.box fr nm o
  refine h1 _ H1 le2 s2 _ (.ptr ?_)
  show (w1.ρ ++ [p])[S1.length]? = some p
  rw [← s1.ln, List.getElem?_append_right (Nat.le_refl _)]
  simp
/-- a cell changes -/
theorem Sim.cell (s : Sim K C w env S σ H) {n : Nat} {u u' : PV} {q : Addr} {o : HO} (h1 : S[n]? = some u) (h2 : w.ρ[n]? = some q) (r : ObjR K C w (upd H q o) q u') : Sim K C w env (S.set n u') σ (upd H q o) := by
  obtain ⟨f, b, _⟩ := s.cl n u q h1 h2
  refine ⟨fun x y e => ?_, fun x y e => ?_, s.fb, s.lb, s.le, fun i x e => ?_, s.od, by simp [s.ln], s.nd, fun m c x e1 e2 => ?_⟩
  · rw [upd_ne (fun h => by rw [h, f] at e; cases e)]; exact s.f _ _ e
  · rw [upd_ne (fun h => by rw [h, b] at e; cases e)]; exact s.b _ _ e
  · have z := s.sl i x e
    cases x with
    | own y =>
      obtain ⟨x, z1, z2, z3⟩ := z
      exact ⟨x, z1, z2, z3.off (fun h => z2.r (by rw [h]; exact List.mem_of_getElem? h2)) o⟩
    | _ => exact z
  · by_cases hm : m = n
    · subst hm
      rw [h2] at e2
      cases e2
      have hlt := (List.getElem?_eq_some_iff.mp h1).1
      rw [List.getElem?_set_self hlt] at e1
      cases e1
      exact ⟨f, b, r⟩
    · rw [List.getElem?_set_ne (Ne.symm hm)] at e1
      obtain ⟨z1, z2, z3⟩ := s.cl m c x e1 e2
      refine ⟨z1, z2, z3.off (fun h => ?_) o⟩
      subst h
      obtain ⟨l1, g1⟩ := List.getElem?_eq_some_iff.mp e2
      obtain ⟨l2, g2⟩ := List.getElem?_eq_some_iff.mp h2
      exact hm ((List.getElem_inj s.nd).mp (g1.trans g2.symm))
/-- a slot's own object changes -/
theorem Sim.ownU (s : Sim K C w env S σ H) {i : Nat} {u u' : PV} {q : Addr} {o : HO} (h1 : env[i]? = some (.own u)) (h2 : σ[i]? = some (some (.ref q))) (r : ObjR K C w (upd H q o) q u') : Sim K C w (env.set i (.own u')) S σ (upd H q o) := by
  obtain ⟨q', z1, fr, _⟩ := s.sl i _ h1
  rw [h2] at z1; cases z1
  have hlt := (List.getElem?_eq_some_iff.mp h1).1
  refine ⟨fun x y e => ?_, fun x y e => ?_, s.fb, s.lb, by simpa using s.le, fun j x e => ?_, fun j k x y x' e1 e2 m1 m2 q1 q2 => ?_, s.ln, s.nd, fun m c x e1 e2 => ?_⟩
  · rw [upd_ne (fun h => by rw [h, fr.f] at e; cases e)]; exact s.f _ _ e
  · rw [upd_ne (fun h => by rw [h, fr.b] at e; cases e)]; exact s.b _ _ e
  · by_cases hj : j = i
    · subst hj
      rw [List.getElem?_set_self hlt] at e
      cases e
      exact ⟨q, h2, fr, r⟩
    · rw [List.getElem?_set_ne (Ne.symm hj)] at e
      have z := s.sl j x e
      cases x with
      | own y =>
        obtain ⟨x, z1, z2, z3⟩ := z
        exact ⟨x, z1, z2, z3.off (fun h => hj (s.od j i _ _ q e h1 rfl rfl (by rw [← h]; exact z1) h2)) o⟩
      | _ => exact z
  · have back : ∀ (j : Nat) (x : SV), (env.set i (.own u'))[j]? = some x → x.mine = true → ∃ x', env[j]? = some x' ∧ x'.mine = true := fun j x e m => by
      by_cases hj : j = i
      · subst hj; exact ⟨_, h1, rfl⟩
      · rw [List.getElem?_set_ne (Ne.symm hj)] at e; exact ⟨x, e, m⟩
    obtain ⟨x1, a1, b1⟩ := back j x e1 m1
    obtain ⟨x2, a2, b2⟩ := back k y e2 m2
    exact s.od j k _ _ _ a1 a2 b1 b2 q1 q2
  · obtain ⟨z1, z2, z3⟩ := s.cl m c x e1 e2
    exact ⟨z1, z2, z3.off (fun h => fr.r (by rw [← h]; exact List.mem_of_getElem? e2)) o⟩
theorem appP_ok {q : Addr} {u u' v : PV} {x : V} (h : appP u v = some u') (o : ObjR K C w H q u) (r : Rep K C w.F w.ρ x v) : ∃ vs, H q = some (.lst vs) ∧ vs.length < sizeLine ∧ ObjR K C w (upd H q (.lst (vs ++ [x]))) q u' := by
  cases u with
  | lst xs =>
    unfold appP at h
    dsimp only at h
    split at h
    · cases h
      obtain ⟨vs, e, rl⟩ := o
      rename_i hl
      exact ⟨vs, e, by rw [rl.length]; exact Nat.lt_of_le_of_lt hl (by decide), _, upd_same, rl.append (.cons r .nil)⟩
    · cases h
  | _ => cases h
theorem setP_ok {q : Addr} {u u' k v : PV} {x y : V} (h : setP u k v = some u') (o : ObjR K C w H q u) (rk : Rep K C w.F w.ρ y k) (r : Rep K C w.F w.ρ x v) : ∃ vs i j, H q = some (.lst vs) ∧ y = .int i ∧ ixN vs.length i = some j ∧ ObjR K C w (upd H q (.lst (vs.set j x))) q u' := by
  cases u with
  | lst xs =>
    cases k with
    | int i =>
      obtain ⟨j, h1, rfl⟩ := Option.map_eq_some_iff.mp (show (ixN xs.length i).map (fun j => PV.lst (xs.set j v)) = some u' from h)
      obtain ⟨vs, e, rl⟩ := o
      cases rk
      exact ⟨vs, i, j, e, rfl, by rw [rl.length]; exact h1, _, upd_same, RepL.set r j rl⟩
    | _ => cases h
  | _ => cases h

theorem own_at (s : Sim K C w env S σ H) {i : Nat} {u : PV} (h : env[i]? = some (.own u)) : ∃ q, σ[i]? = some (some (.ref q)) ∧ Fr1 w q ∧ ObjR K C w H q u := by
  obtain ⟨q, a, b, c⟩ := s.sl i _ h
  exact ⟨q, a, b, c⟩
theorem own_same (s : Sim K C w env S σ H) {i : Nat} {u : PV} {q : Addr} (h : env[i]? = some (.own u)) (h2 : σ[i]? = some (some (.ref q))) : ObjR K C w H q u := by
  obtain ⟨q', a, b, c⟩ := s.sl i _ h
  rw [h2] at a; cases a; exact c
/-- x.append(e), x a slot of our own -/
theorem h_app {i : Nat} {x : Str} {p1 apos cpos : Pos} (hN : X.N[i]? = some x) (hv : Vis X.env.scope x) (ha : PE X e (rE X.K C E da)) (hd : (x == ("__debug__" : Str)) = false := by decide) (hcd : (x == ("__classdict__" : Str)) = false := by decide)
    (hline : (apos.endLine == cpos.line) = true := by rfl) (hbase : attributeBase (.Name x p1) "append" X.env (eval (.Name x p1) X.env) = eval (.Name x p1) X.env := by rfl)
    (hs : starEach [e] X.env = [(false, eval e X.env)] := by rfl)
    (hfew : ((backTo cpos (starEach [e] X.env)).all (fun x => !x.1) && (backToKw cpos (keywordEach [] X.env)).all (fun x => x.1.isSome)
      && decide ([e].length + ([] : List Keyword).length + (if ([] : List Keyword).isEmpty then 0 else 1) < 30)) = true := by rfl)
    (hsw : swapsWith (.Call (.Attribute (.Name x p1) "append" apos) [e] [] cpos) none pos.line X.env = pure false := by rfl) :
    PS X (.Expr (.Call (.Attribute (.Name x p1) "append" apos) [e] [] cpos) pos) (rS X.K C E (sApp i da)) := by
  refine (ps_expr (pe_bm PySem.F.plainAttrs_list PySem.F.slot_list_append PySem.F.type_list_append mt_append (pe_var (i := i) hN hv hd hcd) (pa_cons ha pa_nil hs) hbase hfew hline hs) hsw).imp ?_
  rintro D σ H ⟨w, env, S, s, h⟩
  unfold sApp at h
  split at h
  · rename_i xs e1
    obtain ⟨q, z1, fr, o⟩ := own_at s e1
    obtain ⟨vs, z2, _⟩ := o
    refine ⟨.ref q, z1, .inl ⟨rfl, vs, SqL.of z2⟩, w, env, S, s, ?_⟩
    cases hd : da env S with
    | ex c S1 => rw [hd] at h; exact fun w1 H1 le s1 => h w1 H1 σ le s1
    | bad => rw [hd] at h; exact h.elim
    | ok v S1 =>
      rw [hd] at h
      intro w1 H1 le s1 y ry
      cases ha : appP (.lst xs) v with
      | none => simp only [ha] at h; exact h.elim
      | some u' =>
        simp only [ha] at h
        obtain ⟨vs, g1, g2, g3⟩ := appP_ok ha (own_same s1 e1 z1) ry
        exact ⟨q, vs, y, rfl, rfl, g1, g2, h w1 _ σ le (s1.ownU e1 z1 g3)⟩
  · exact h.elim
/-- o.append(e), o a cell -/
theorem h_appC {o : Expr} {do_ : Ex} {apos cpos : Pos} (ho : PE X o (rE X.K C E do_)) (ha : PE X e (rE X.K C E da))
    (hbase : attributeBase o "append" X.env (eval o X.env) = eval o X.env := by rfl) (hline : (apos.endLine == cpos.line) = true := by rfl)
    (hs : starEach [e] X.env = [(false, eval e X.env)] := by rfl)
    (hfew : ((backTo cpos (starEach [e] X.env)).all (fun x => !x.1) && (backToKw cpos (keywordEach [] X.env)).all (fun x => x.1.isSome)
      && decide ([e].length + ([] : List Keyword).length + (if ([] : List Keyword).isEmpty then 0 else 1) < 30)) = true := by rfl)
    (hsw : swapsWith (.Call (.Attribute o "append" apos) [e] [] cpos) none pos.line X.env = pure false := by rfl) :
    PS X (.Expr (.Call (.Attribute o "append" apos) [e] [] cpos) pos) (rS X.K C E (sAppC do_ da)) := by
  refine (ps_expr (pe_bm PySem.F.plainAttrs_list PySem.F.slot_list_append PySem.F.type_list_append mt_append ho (pa_cons ha pa_nil hs) hbase hfew hline hs) hsw).imp ?_
  rintro D σ H ⟨w, env, S, s, h⟩
  unfold sAppC at h
  refine ⟨w, env, S, s, ?_⟩
  cases hd : do_ env S with
  | ex c S1 => rw [hd] at h; exact fun w1 H1 le s1 => h w1 H1 σ le s1
  | bad => rw [hd] at h; exact h.elim
  | ok v S1 =>
    rw [hd] at h
    cases v with
    | ptr n =>
      dsimp only at h
      split at h
      · rename_i xs e1
        intro w1 H1 le s1 y ry
        cases ry with
        | ptr ra =>
          rename_i q
          obtain ⟨_, _, vs, z2, _⟩ := s1.cl n _ q e1 ra
          refine ⟨.inl ⟨rfl, vs, SqL.of z2⟩, w1, env, S1, s1, ?_⟩
          cases hd : da env S1 with
          | ex c S1 => rw [hd] at h; exact fun w2 H2 le2 s2 => h w2 H2 σ (le.trans le2) s2
          | bad => rw [hd] at h; exact h.elim
          | ok v S2 =>
            rw [hd] at h
            intro w2 H2 le2 s2 y ry
            dsimp only at h
            split at h
            · rename_i u e2
              cases ha : appP u v with
              | none => simp only [ha] at h; exact h.elim
              | some u' =>
                simp only [ha] at h
                have ra2 := le2.get ra
                obtain ⟨_, _, ob⟩ := s2.cl n _ q e2 ra2
                obtain ⟨vs, g1, g2, g3⟩ := appP_ok ha ob ry
                exact ⟨q, vs, y, rfl, rfl, g1, g2, h w2 _ σ (le.trans le2) (s2.cell e2 ra2 g3)⟩
            · exact h.elim
      · exact h.elim
    | _ => exact h.elim
/-- x[k] = e, x our own -/
theorem h_setI {i : Nat} {x : Str} {p1 p2 : Pos} {k : Expr} {dk : Ex} (hN : X.N[i]? = some x) (hv : Vis X.env.scope x) (he : PE X e (rE X.K C E da)) (hk : PE X k (rE X.K C E dk)) (hd : (x == ("__debug__" : Str)) = false := by decide) (hcd : (x == ("__classdict__" : Str)) = false := by decide)
    (hs : swapsWithSole [.Subscript (.Name x p1) k p2] e pos.line X.env = pure false := by rfl) (hw : swappedStores [.Subscript (.Name x p1) k p2] e X.env = pure none := by rfl)
    (h1 : (assignEach [.Subscript (.Name x p1) k p2] X.env).map (·.2) = [assign (.Subscript (.Name x p1) k p2) X.env] := by rfl)
    (hg : ∀ v, assign (.Subscript (.Name x p1) k p2) X.env v = (do
      let ov ← holding [v] (eval (.Name x p1) X.env)
      let iv ← holding [v, ov] (eval k X.env)
      standAt p2
      holding [v, ov, iv] (setItem ov iv v)
      release [v, ov, iv] []) := by intro _; rfl) : PS X (.Assign [.Subscript (.Name x p1) k p2] e pos) (rS X.K C E (sSetI i dk da)) := by
  refine (ps_asg he (pg_sub (pe_var (i := i) hN hv hd hcd) hk set_list hg) hs hw h1).imp ?_
  rintro D σ H ⟨w, env, S, s, h⟩
  unfold sSetI at h
  refine ⟨w, env, S, s, ?_⟩
  cases hd : da env S with
  | ex c S1 => rw [hd] at h; exact fun w1 H1 le s1 => h w1 H1 σ le s1
  | bad => rw [hd] at h; exact h.elim
  | ok v S1 =>
    rw [hd] at h
    intro w1 H1 le s1 y ry
    dsimp only at h
    split at h
    · rename_i u e1
      obtain ⟨q, z1, _, _⟩ := own_at s1 e1
      refine ⟨.ref q, z1, w1, env, S1, s1, ?_⟩
      cases hd : dk env S1 with
      | ex c S2 => rw [hd] at h; exact fun w2 H2 le2 s2 => h w2 H2 σ (le.trans le2) s2
      | bad => rw [hd] at h; exact h.elim
      | ok kv S2 =>
        rw [hd] at h
        intro w2 H2 le2 s2 z rz
        cases ha : setP u kv v with
        | none => simp only [ha] at h; exact h.elim
        | some u' =>
          simp only [ha] at h
          obtain ⟨vs, a, j, g1, rfl, g2, g3⟩ := setP_ok ha (own_same s2 e1 z1) rz (RepW.up le2 ry)
          exact ⟨q, vs, a, j, rfl, rfl, g1, g2, h w2 _ σ (le.trans le2) (s2.ownU e1 z1 g3)⟩
    · exact h.elim
/-- o[k] = e, o a cell -/
theorem h_setC {o k : Expr} {do_ dk : Ex} {p2 : Pos} (he : PE X e (rE X.K C E da)) (ho : PE X o (rE X.K C E do_)) (hk : PE X k (rE X.K C E dk))
    (hs : swapsWithSole [.Subscript o k p2] e pos.line X.env = pure false := by rfl) (hw : swappedStores [.Subscript o k p2] e X.env = pure none := by rfl)
    (h1 : (assignEach [.Subscript o k p2] X.env).map (·.2) = [assign (.Subscript o k p2) X.env] := by rfl)
    (hg : ∀ v, assign (.Subscript o k p2) X.env v = (do
      let ov ← holding [v] (eval o X.env)
      let iv ← holding [v, ov] (eval k X.env)
      standAt p2
      holding [v, ov, iv] (setItem ov iv v)
      release [v, ov, iv] []) := by intro _; rfl) : PS X (.Assign [.Subscript o k p2] e pos) (rS X.K C E (sSetC do_ dk da)) := by
  refine (ps_asg he (pg_sub ho hk set_list hg) hs hw h1).imp ?_
  rintro D σ H ⟨w, env, S, s, h⟩
  unfold sSetC at h
  refine ⟨w, env, S, s, ?_⟩
  cases hd : da env S with
  | ex c S1 => rw [hd] at h; exact fun w1 H1 le s1 => h w1 H1 σ le s1
  | bad => rw [hd] at h; exact h.elim
  | ok v S1 =>
    rw [hd] at h
    intro w1 H1 le s1 y ry
    refine ⟨w1, env, S1, s1, ?_⟩
    dsimp only at h
    cases ho : do_ env S1 with
    | ex c S2 => rw [ho] at h; exact fun w2 H2 le2 s2 => h w2 H2 σ (le.trans le2) s2
    | bad => rw [ho] at h; exact h.elim
    | ok p S2 =>
      rw [ho] at h
      cases p with
      | ptr n =>
        dsimp only at h
        intro w2 H2 le2 s2 q rq
        cases rq with
        | ptr ra =>
          rename_i q
          refine ⟨w2, env, S2, s2, ?_⟩
          cases hd : dk env S2 with
          | ex c S3 => rw [hd] at h; exact fun w3 H3 le3 s3 => h w3 H3 σ (le.trans (le2.trans le3)) s3
          | bad => rw [hd] at h; exact h.elim
          | ok kv S3 =>
            rw [hd] at h
            intro w3 H3 le3 s3 z rz
            dsimp only at h
            split at h
            · rename_i u e2
              cases ha : setP u kv v with
              | none => simp only [ha] at h; exact h.elim
              | some u' =>
                simp only [ha] at h
                have ra2 := le3.get ra
                obtain ⟨_, _, ob⟩ := s3.cl n _ q e2 ra2
                obtain ⟨vs, a, j, g1, rfl, g2, g3⟩ := setP_ok ha ob rz (RepW.up (le2.trans le3) ry)
                exact ⟨q, vs, a, j, rfl, rfl, g1, g2, h w3 _ σ (le.trans (le2.trans le3)) (s3.cell e2 ra2 g3)⟩
            · exact h.elim
      | _ => exact h.elim
end
end Hw

set_option maxRecDepth 100000
set_option maxHeartbeats 4000000
namespace Hw
open PySem PySem.Spec L2
open PyProof.Rows (envOfC)
section
variable {X : Cx} {C : Kx → Addr} {K : PySem.W.Frag} {F F' H H' : Hp} {ρ : List Addr}
/-! ### isinstance -/
theorem kit_T (T U : Ty) : PySem.W.kitOne K (.type U.nm) (.type T.nm) = some (decide (T = U)) ∨ (U = .bool ∧ T = .int) := by
  cases T <;> cases U <;> first
    | exact .inr ⟨rfl, rfl⟩
    | exact .inl (kit_ty (by decide +kernel))
theorem kit_bl (T : Ty) : PySem.W.kitOne K (.type "bool") (.type T.nm) = some (decide (T = .bool ∨ T = .int)) := by
  cases T <;> exact kit_ty (by decide +kernel)
theorem kit_non (T : Ty) : PySem.W.kitOne K (.type "NoneType") (.type T.nm) = some false := by
  cases T <;> exact kit_ty (by decide +kernel)
theorem kit_int (T : Ty) : PySem.W.kitOne K (.type "int") (.type T.nm) = some (decide (T = .int)) := by
  cases T <;> exact kit_ty (by decide +kernel)
theorem kit_str (T : Ty) : PySem.W.kitOne K (.type "str") (.type T.nm) = some (decide (T = .str)) := by
  cases T <;> exact kit_ty (by decide +kernel)
theorem kit_tup (T : Ty) : PySem.W.kitOne K (.type "tuple") (.type T.nm) = some (decide (T = .tuple)) := by
  cases T <;> exact kit_ty (by decide +kernel)
theorem kit_lst (T : Ty) : PySem.W.kitOne K (.type "list") (.type T.nm) = some (decide (T = .list)) := by
  cases T <;> exact kit_ty (by decide +kernel)
theorem kit_dct (T : Ty) : PySem.W.kitOne K (.type "dict") (.type T.nm) = some (decide (T = .dict)) := by
  cases T <;> exact kit_ty (by decide +kernel)
theorem tyx_tup {a : Addr} {vs : List V} (h : SqT K H a vs) : TyX K H (.ref a) (.type "tuple") := by
  rcases h with (h | ⟨o, h⟩) | ⟨o, its, n, h1, h2, _⟩
  · exact .base (.tup h)
  · exact .fTuple h
  · exact .kTuple h1 h2
theorem tyx_lst {a : Addr} {vs : List V} (h : Rd H a (.lst vs)) : TyX K H (.ref a) (.type "list") := by
  rcases h with h | ⟨o, h⟩
  · exact .base (.lst h)
  · exact .base (.frz h)
/-- isinstance(x, T), T a built-in type; not of frozen dicts with tuples as keys -/
def pIsi (T : Ty) (u : PV) : Option PV := match u with
  | .dI _ => none
  | .dT _ => none
  | u => pIsI T u
theorem s_isi (T : Ty) : Op1 K (pIsi T) fun x H Q => rIsi K [x, .ty T.nm] H Q := by
  intro C F H ρ x u z Q hF hx e h
  have go : ∀ (t : Value) (b : Bool), TyX K H x t → PySem.W.kitOne K t (.type T.nm) = some b → z = .bl b → rIsi K [x, .ty T.nm] H Q := fun t b ty k e => by
    subst e
    exact ⟨x, .ty T.nm, t, .type T.nm, b, rfl, .ty _, ty, k, h F H _ (Grow.refl hF) (.bl _)⟩
  cases u with
  | non => cases e; cases hx.non; exact go _ _ (.base .non) (kit_non T) rfl
  | bl b => cases e; cases hx.bl; exact go _ _ (.base (.bl b)) (kit_bl T) rfl
  | int i => cases e; cases hx.int; exact go _ _ (.base (.int i)) (kit_int T) rfl
  | str s => cases e; cases hx.str; exact go _ _ (.base (.str s)) (kit_str T) rfl
  | tup xs =>
    cases e
    obtain ⟨a, vs, rfl, q, r⟩ := hx.tup
    exact go _ _ (tyx_tup (SqT.le hF q)) (kit_tup T) rfl
  | lst xs =>
    cases e
    obtain ⟨a, vs, rfl, q, r⟩ := hx.lst hF
    exact go _ _ (tyx_lst q) (kit_lst T) rfl
  | _ => cases e
section
variable {E : WX} {pos p p2 : Pos} {a : Expr} {da : Plx}
theorem h_isi (T : Ty) {t : Str} (hg : Gl X "isinstance") (hm : X.mg "isinstance" = none) (hgt : Gl X t) (hmt : X.mg t = none) (hv : bootBuiltins t = some (.type T.nm)) (ha : PE X a (rP X.K C E da)) (hn : t ≠ "__name__" := by decide) (hd : (t == ("__debug__" : Str)) = false := by decide)
    (he : starEach [a, .Name t p2] X.env = [(false, eval a X.env), (false, eval (.Name t p2) X.env)] := by rfl) (he2 : starEach [.Name t p2] X.env = [(false, eval (.Name t p2) X.env)] := by rfl) :
    PE X (.Call (.Name "isinstance" p) [a, .Name t p2] [] pos) (rE X.K C E (eP1 (pIsi T) da)) :=
  (pe_callB call_isi hg hm PyProof.Rows.boot_isinstance (pa_cons ha (pa_cons (pe_bltn (v := .ty T.nm) hgt hmt hv rfl hn hd) pa_nil he2) (by rw [he, he2])) (by decide) (by decide) (by rw [he, he2]) (by rw [he2] <;> rfl)).imp fun σ H Q h => p1_rd (s_isi T) h
end
/-! ### in -/
theorem flat_rep {x : V} {u : PV} (h : Rep K C F ρ x u) (f : flatP u = true) : flatV x = true := by
  cases h <;> first | rfl | cases f
theorem flat_seen {x : V} {u : PV} (h : Seen K C F ρ H x u) (f : flatP u = true) : flatV x = true := by
  rcases h with h | ⟨a, _, h⟩
  · exact flat_rep h f
  · cases u <;> first | exact h.elim | cases f
theorem flat_eq {x y : V} {u v : PV} (hx : Rep K C F ρ x u) (hy : Seen K C F ρ H y v) (fu : flatP u = true) (fv : flatP v = true) : eqV x y = u.eq v := by
  cases v with
  | non => cases hy.non; cases hx <;> first | rfl | cases fu
  | bl b => cases hy.bl; cases hx <;> first | rfl | cases fu
  | int i => cases hy.int; cases hx <;> first | rfl | cases fu
  | str i => cases hy.str; cases hx <;> first | rfl | cases fu
  | _ => cases fv
theorem flat_all {vs : List V} {xs : List PV} : RepL K C F ρ vs xs → xs.all flatP = true → vs.all flatV = true := by
  intro r
  induction xs generalizing vs with
  | nil => intro _; cases r; rfl
  | cons x xs ih =>
    intro f
    cases r with
    | cons a b =>
      rw [List.all_cons, Bool.and_eq_true] at f ⊢
      exact ⟨flat_rep a f.1, ih b f.2⟩
theorem flat_any {y : V} {v : PV} (hy : Seen K C F ρ H y v) (fv : flatP v = true) {vs : List V} {xs : List PV} : RepL K C F ρ vs xs → xs.all flatP = true → (vs.any fun z => eqV z y) = xs.any fun z => z.eq v := by
  intro r
  induction xs generalizing vs with
  | nil => intro _; cases r; rfl
  | cons x xs ih =>
    intro f
    cases r with
    | cons a b =>
      rw [List.all_cons, Bool.and_eq_true] at f
      rw [List.any_cons, List.any_cons, flat_eq a hy f.1 fv, ih b f.2]
def rInX (K : PySem.W.Frag) : R2 := fun x y H Q => rIn K false x y H Q ∨ rInD K x y H Q
def rNotInX (K : PySem.W.Frag) : R2 := fun x y H Q => rIn K true x y H Q ∨ rNotInD K x y H Q
theorem o_in (hu : X.A.units + 65 < cLine) : OpR X (compareOp .In) (rInX X.K) := op_in_seq.or (op_inD hu)
theorem o_notin (hu : X.A.units + 65 < cLine) : OpR X (compareOp .NotIn) (rNotInX X.K) := op_notIn_seq.or (op_notInD hu)
theorem anyD (v : PV) (fv : v.sh 16 = true) : ∀ xs : List PV, PV.shL xs 15 = true → ((PV.datL xs).any fun z => PyData.eqv z v.dat) = xs.any fun z => z.eq v
  | [], _ => rfl
  | x :: xs, h => by
    rw [show PV.shL (x :: xs) 15 = (x.sh 15 && PV.shL xs 15) from rfl, Bool.and_eq_true] at h
    rw [show PV.datL (x :: xs) = x.dat :: PV.datL xs from rfl, List.any_cons, List.any_cons, eq_dat x v 15 16 h.1 fv, anyD v fv xs h.2]
/-- x in y -/
def pInX (x y : PV) : Option PV := match y with
  | .lst ys => if flatP x && ys.all flatP then some (.bl (ys.any fun z => z.eq x)) else if x.sh 16 && PV.shL ys 15 then some (.bl (ys.any fun z => z.eq x)) else none
  | .tup ys => if flatP x && ys.all flatP then some (.bl (ys.any fun z => z.eq x)) else none
  | _ => none
def pNotInX (x y : PV) : Option PV := match pInX x y with
  | some (.bl b) => some (.bl (!b))
  | _ => none
theorem in_cases {x y : V} {u v : PV} {z : PV} (hF : Le F H) (hx : Seen K C F ρ H x u) (hy : Seen K C F ρ H y v) (e : pInX u v = some z) :
    ∃ b, z = .bl b ∧ ((∃ p vs, y = .ref p ∧ (SqL K H p vs ∨ SqT K H p vs) ∧ flatV x = true ∧ vs.all flatV = true ∧ inV x vs = b) ∨
      (∃ d ds, Dp K H x d ∧ Dp K H y (.list ds) ∧ SeqAt.shaped d = true ∧ SeqAt.shaped (.list ds) = true ∧ (ds.any fun z => PyData.eqv z d) = b)) := by
  cases v with
  | lst ys =>
    unfold pInX at e
    dsimp only at e
    split at e
    · rename_i hf
      obtain ⟨f1, f2⟩ := Bool.and_eq_true_iff.mp hf
      cases e
      obtain ⟨a, vs, rfl, q, r⟩ := hy.lst hF
      exact ⟨_, rfl, .inl ⟨a, vs, rfl, .inl (.inl q), flat_seen hx f1, flat_all r f2, flat_any hx f1 r f2⟩⟩
    · split at e
      · rename_i hf
        obtain ⟨f1, f2⟩ := Bool.and_eq_true_iff.mp hf
        cases e
        have sh : (PV.lst ys).sh 16 = true := f2
        exact ⟨_, rfl, .inr ⟨u.dat, PV.datL ys, seen_dp hF hx f1, seen_dp hF hy sh, sh_shaped f1, sh_shaped sh, anyD u f1 ys f2⟩⟩
      · cases e
  | tup ys =>
    unfold pInX at e
    dsimp only at e
    split at e
    · rename_i hf
      obtain ⟨f1, f2⟩ := Bool.and_eq_true_iff.mp hf
      cases e
      obtain ⟨a, vs, rfl, q, r⟩ := hy.tup
      exact ⟨_, rfl, .inl ⟨a, vs, rfl, .inr (SqT.le hF q), flat_seen hx f1, flat_all r f2, flat_any hx f1 r f2⟩⟩
    · cases e
  | _ => cases e
theorem s_in : Op2 K pInX (rInX K) := by
  intro C F H ρ x y u v z Q hF hx hy e h
  obtain ⟨b, rfl, c⟩ := in_cases hF hx hy e
  have hq := h F H _ (Grow.refl hF) (.bl b)
  rcases c with ⟨p, vs, e1, e2, e3, e4, rfl⟩ | ⟨d, ds, e1, e2, e3, e4, rfl⟩
  · exact .inl ⟨p, vs, e1, e2, e3, e4, hq⟩
  · exact .inr ⟨d, ds, e1, e2, e3, e4, hq⟩
theorem s_notin : Op2 K pNotInX (rNotInX K) := by
  intro C F H ρ x y u v z Q hF hx hy e h
  unfold pNotInX at e
  cases e1 : pInX u v with
  | none => rw [e1] at e; cases e
  | some t =>
    rw [e1] at e
    obtain ⟨b, rfl, c⟩ := in_cases hF hx hy e1
    cases e
    have hq := h F H _ (Grow.refl hF) (.bl (!b))
    rcases c with ⟨p, vs, g1, g2, g3, g4, rfl⟩ | ⟨d, ds, g1, g2, g3, g4, rfl⟩
    · exact .inl ⟨p, vs, g1, g2, g3, g4, hq⟩
    · exact .inr ⟨d, ds, g1, g2, g3, g4, hq⟩
/-! ### slices -/
def cutP (xs : List PV) (lo hi : Option Int) : List PV := (xs.drop (HT.sIx xs.length 0 lo)).take (HT.sIx xs.length xs.length hi - HT.sIx xs.length 0 lo)
theorem cut_rep {vs : List V} {xs : List PV} (r : RepL K C F ρ vs xs) (lo hi : Option Int) : RepL K C F ρ (cutV vs lo hi) (cutP xs lo hi) := by
  unfold cutV cutP
  rw [r.length]
  exact RepL.take _ (RepL.drop _ r)
def pCut (u : PV) (lo hi : Option Int) : Option PV := match u with
  | .lst xs => some (.lst (cutP xs lo hi))
  | .tup xs => some (.tup (cutP xs lo hi))
  | _ => none
def pCutO (u : PV) (lo hi : Option PV) : Option PV := match lo, hi with
  | none, none => pCut u none none
  | some (.int i), none => pCut u (some i) none
  | none, some (.int j) => pCut u none (some j)
  | some (.int i), some (.int j) => pCut u (some i) (some j)
  | _, _ => none
def rSlX (K : PySem.W.Frag) : V → Option Int → Option Int → Hp → VK → Prop := fun x lo hi H Q => rSlL K x lo hi H Q ∨ rSlA K x lo hi H Q
theorem o_sl : SlR X (rSlX X.K) := sl_list.or sl_tupA
theorem s_sl {x : V} {u z : PV} {lo hi : Option Int} {Q : VK} (hF : Le F H) (hx : Seen K C F ρ H x u) (e : pCut u lo hi = some z) (h : ∀ F' H' q, Grow F H F' H' → Rep K C F' ρ q z → Q q H') : rSlX K x lo hi H Q := by
  cases u with
  | lst xs =>
    cases e
    obtain ⟨a, vs, rfl, q, r⟩ := hx.lst hF
    exact .inl ⟨a, vs, rfl, .inl q, new_lst hF (cut_rep r lo hi) h⟩
  | tup xs =>
    cases e
    obtain ⟨a, vs, rfl, q, r⟩ := hx.tup
    refine .inr ⟨a, vs, rfl, SqT.le hF q, fun hw => ?_, fun _ => new_tup hF (cut_rep r lo hi) h⟩
    have e : cutV vs lo hi = vs := by
      unfold cutV
      rw [hw.1, hw.2]
      simp
    refine h F H _ (Grow.refl hF) (.tup q ?_)
    have := cut_rep r lo hi
    rw [e] at this
    exact this
  | _ => cases e
def eOpt (d : Option Ex) : En → Sto → R (Option Int) := match d with
  | none => fun _ S => .ok none S
  | some d => fun env S => (d env S).bind fun u S => match u with
    | .int i => .ok (some i) S
    | _ => .bad
def eCut (a : Plx) (lo hi : Option Ex) : Ex := fun env S => (a env S).bind fun p S => (eOpt lo env S).bind fun l S => (eOpt hi env S).bind fun u S => match res p env S with
  | some x => .opt (pCut x l u) S
  | none => .bad
section
variable {E : WX} {pos p p2 : Pos} {a : Expr} {da : Plx} {dl : Option Ex}
def rO (K : PySem.W.Frag) (C : Kx → Addr) (E : WX) (d : Option Ex) : TO := fun σ H Q => ∃ w env S, Sim K C w env S σ H ∧ Wp K C E w env σ (eOpt d env S) fun v _ w' H' => Q v H'
theorem ho_none : PO X none (rO X.K C E none) := ⟨fun pins s σ H Q I ⟨w, env, S, z, h⟩ => po_none.run pins s σ H Q I (h w H (Wd.le.refl _) z)⟩
theorem ho_some {e : Expr} {d : Ex} (h : PE X e (rE X.K C E d)) : PO X (some e) (rO X.K C E (some d)) := ⟨fun pins s σ H Q I ⟨w, env, S, z, q⟩ => (po_some h).run pins s σ H Q I (by
  refine ⟨w, env, S, z, (Wp.bind (f := fun u S => match u with
    | .int i => R.ok (some i) S
    | _ => .bad) (show Wp _ _ _ _ _ _ ((d env S).bind _) _ from q)).mono fun u S1 w1 H1 le s1 h1 x rx => ?_⟩
  cases u with
  | int i => cases rx; exact ⟨i, rfl, h1 w1 H1 (Wd.le.refl _) s1⟩
  | _ => exact h1.elim)⟩
theorem h_cut {lo hi : Option Expr} {dl dh : Option Ex} (ha : PE X a (rP X.K C E da)) (hl : PO X lo (rO X.K C E dl)) (hh : PO X hi (rO X.K C E dh)) : PE X (.Subscript a (.Slice lo hi none p2) pos) (rE X.K C E (eCut da dl dh)) := by
  refine (pe_slice o_sl ha hl hh).imp ?_
  rintro σ H Q ⟨w, env, S, s, h⟩
  unfold eCut at h
  refine ⟨w, env, S, s, h.bind.mono fun p S1 w1 H1 le1 s1 h1 x rx => ⟨w1, env, S1, s1, h1.bind.mono fun l S2 w2 H2 le2 s2 h2 => ⟨w2, env, S2, s2, h2.bind.mono fun u S3 w3 H3 le3 s3 h3 => ?_⟩⟩⟩
  split at h3
  · rename_i y e
    cases e2 : pCut y l u with
    | none => rw [e2] at h3; exact h3.elim
    | some z =>
      rw [e2] at h3
      refine s_sl s3.f (((rx.up le2).up le3).seen s3 e) e2 fun F' H' q g rq => ?_
      obtain ⟨s4, le4⟩ := s3.grow g
      exact h3 _ H' le4 s4 q rq
  · exact h3.elim
end
end
end Hw

set_option maxRecDepth 100000
set_option maxHeartbeats 4000000
namespace Hw
open PySem PySem.Spec L2
open PyProof.Rows (envOfC)
section
variable {X : Cx} {C : Kx → Addr} {E : WX} {a b c e tg : Expr} {da db dc : Ex} {sa sb sc : Sm} {pos p p2 : Pos} {st : Stmt} {sts : List Stmt} {K : PySem.W.Frag} {w w' : Wd} {env env' : En} {S S' : Sto} {σ σ' : L2.St} {H H' : Hp} {D : Ends}
/-! ### list(range(..)) -/
def eLR (d : Ex) : Ex := fun env S => (d env S).bind fun u S => match u with
  | .int j => if decide (0 ≤ j) && decide (j ≤ 10000000) then .ok (.lst (rangeL 0 j.toNat)) S else .bad
  | _ => .bad
theorem rep_range {F : Hp} {ρ : List Addr} (n : Nat) : RepL K C F ρ (rgV 0 n) (rangeL 0 n) := by
  unfold rgV rangeL
  rw [show ((n : Int) - 0).toNat = n by omega]
  generalize List.range n = l
  induction l with
  | nil => exact .nil
  | cons x l ih => exact .cons (.int _) ih
theorem h_lrN (hc : X.calm = true) (hg : Gl X "list") (hm : X.mg "list" = none) (hr : Gl X "range") (hmr : X.mg "range" = none) {pr : Pos} (ha : PE X a (rE X.K C E da)) (na : starEach [a] X.env = (false, eval a X.env) :: starEach [] X.env := by rfl)
    (na2 : starEach [.Call (.Name "range" pr) [a] [] p2] X.env = (false, eval (.Call (.Name "range" pr) [a] [] p2) X.env) :: starEach [] X.env := by rfl) :
    PE X (.Call (.Name "list" p) [.Call (.Name "range" pr) [a] [] p2] [] pos) (rN X.K C E (eLR da)) := by
  refine (pe_listRg hc hg hm (prg_1 hr hmr ha na) na2).imp ?_
  rintro σ H Q ⟨w, env, S, s, h⟩
  unfold eLR at h
  refine ⟨w, env, S, s, h.bind.mono fun u S1 w1 H1 le1 s1 h1 x rx => ?_⟩
  cases u with
  | int j =>
    cases rx
    dsimp only at h1
    split at h1
    · rename_i hj
      obtain ⟨j0, j1⟩ := Bool.and_eq_true_iff.mp hj
      have j0 := of_decide_eq_true j0
      have j1 := of_decide_eq_true j1
      refine ⟨j, rfl, RgOk.of_le (Int.le_refl _) (by omega) (by omega) j0, fun q hq => ?_⟩
      obtain ⟨s2, fr, nm⟩ := s1.loose (o := .lst (rgV 0 j)) hq
      refine h1 _ _ (Wd.le.refl _) s2 q fr nm ⟨_, upd_same, ?_⟩
      have := rep_range (K := X.K) (C := C) (F := w1.F) (ρ := w1.ρ) j.toNat
      rw [show ((j.toNat : Nat) : Int) = j by omega] at this
      exact this
    · exact h1.elim
  | _ => exact h1.elim
/-! ### two names at once -/
def sPar (is : List Nat) (d : Exs) : Sm := fun env S => match d env S with
  | .ok us S => match tgs is us env with
    | some env => .nx env S
    | none => .bad
  | .ex c S => .ex c env S
  | .bad => .bad
theorem h_par {i j : Nat} {x y : Str} {px py pt : Pos} {kt k2 pt2} {ds : Exs} (hc : X.calm = true) (hN : X.N.Nodup) (hi : X.N[i]? = some x) (hj : X.N[j]? = some y) (hij : i ≠ j)
    (hx : X.env.scope.names.lookup x = some .local) (hy : X.env.scope.names.lookup y = some .local) (ha : PA X [a, b] (rA X.K C E ds))
    (hw : swappedStores [.Tuple [.Name x px, .Name y py] kt pt] (.Tuple [a, b] k2 pt2) X.env = pure (some [x, y]) := by rfl)
    (hs : swapsWithSole [.Tuple [.Name x px, .Name y py] kt pt] (.Tuple [a, b] k2 pt2) pos.line X.env = pure false := by rfl) :
    PS X (.Assign [.Tuple [.Name x px, .Name y py] kt pt] (.Tuple [a, b] k2 pt2) pos) (rS X.K C E (sPar [i, j] ds)) := by
  refine (ps_par hc hN hi hj hij hx hy ha hw hs).imp ?_
  rintro D σ H ⟨w, env, S, s, h⟩
  unfold sPar at h
  refine ⟨w, env, S, s, ?_⟩
  cases hd : ds env S with
  | ex c S1 => rw [hd] at h; exact fun w1 H1 le s1 => h w1 H1 σ le s1
  | bad => rw [hd] at h; exact h.elim
  | ok us S1 =>
    rw [hd] at h
    intro w1 H1 le s1 vs rv
    dsimp only at h
    cases ht : tgs [i, j] us env with
    | none => simp only [ht] at h; exact h.elim
    | some env2 =>
      simp only [ht] at h
      cases us with
      | nil => cases ht
      | cons u us =>
        cases us with
        | nil =>
          obtain ⟨e1, _, h2⟩ := Option.bind_eq_some_iff.mp (show (setV i (.v u) env).bind (fun e1 => tgs [j] [] e1) = some env2 from ht)
          cases h2
        | cons t us =>
          obtain ⟨e1, g1, h2⟩ := Option.bind_eq_some_iff.mp (show (setV i (.v u) env).bind (fun e1 => tgs [j] (t :: us) e1) = some env2 from ht)
          obtain ⟨e2, g2, h3⟩ := Option.bind_eq_some_iff.mp (show (setV j (.v t) e1).bind (fun e1 => tgs [] us e1) = some env2 from h2)
          cases us with
          | cons _ _ => cases h3
          | nil =>
            cases h3
            cases rv with
            | cons r1 rv =>
              cases rv with
              | cons r2 rv =>
                cases rv
                exact ⟨_, _, rfl, h w1 H1 _ le ((s1.putV g1 r1).putV g2 r2)⟩
/-! ### x += e -/
def sAug (i : Nat) (f : PV → PV → Option PV) (d : Ex) : Sm := fun env S => match env[i]? with
  | some (.v u) => match d env S with
    | .ok v S => match f u v with
      | some z => match setV i (.v z) env with
        | some env => .nx env S
        | none => .bad
      | none => .bad
    | .ex c S => .ex c env S
    | .bad => .bad
  | _ => .bad
def IpR (X : Cx) (f : PV → PV → Option PV) (r : TIp) : Prop := ∀ (C : Kx → Addr) (F H : Hp) (ρ : List Addr) (x y : V) (u v z : PV) (Q : VK), Le F H → Rep X.K C F ρ x u → Rep X.K C F ρ y v → f u v = some z →
  (∀ F' H' q, Grow F H F' H' → Rep X.K C F' ρ q z → Q q H') → r x y H Q
theorem h_aug {i : Nat} {x : Str} {op : Operator} {ti : TIp} {f : PV → PV → Option PV} {pos' : Pos} (hf0 : IpR X f ti) (ho : PIp X op ti) (hN : X.N.Nodup) (hi : X.N[i]? = some x) (hx : Loc X.env.scope x) (he : PE X e (rE X.K C E da)) (hf : X.fn x = true ∨ X.env.scope.names.lookup x = some .local := by first | exact .inl rfl | exact .inr rfl | assumption) :
    PS X (.AugAssign (.Name x pos') op e pos) (rS X.K C E (sAug i f da)) := by
  refine (ps_aug hN hi hx he ho hf).imp ?_
  rintro D σ H ⟨w, env, S, s, h⟩
  unfold sAug at h
  split at h
  · rename_i u e1
    obtain ⟨o, z1, r1⟩ := s.sl i _ e1
    refine ⟨o, z1, w, env, S, s, ?_⟩
    cases hd : da env S with
    | ex c S1 => rw [hd] at h; exact fun w1 H1 le s1 => h w1 H1 σ le s1
    | bad => rw [hd] at h; exact h.elim
    | ok v S1 =>
      rw [hd] at h
      intro w1 H1 le s1 y ry
      dsimp only at h
      cases hz : f u v with
      | none => simp only [hz] at h; exact h.elim
      | some z =>
        simp only [hz] at h
        refine hf0 C w1.F H1 w1.ρ o y u v z _ s1.f (RepW.up le r1) ry hz fun F' H' q g rq => ?_
        obtain ⟨s2, le2⟩ := s1.grow g
        cases hg : setV i (.v z) env with
        | none => simp only [hg] at h; exact h.elim
        | some env2 =>
          simp only [hg] at h
          exact h _ H' _ (le.trans le2) (s2.putV hg rq)
  · exact h.elim
def pAddI : PV → PV → Option PV
  | .int i, .int j => some (.int (i + j))
  | _, _ => none
def pSubI : PV → PV → Option PV
  | .int i, .int j => some (.int (i - j))
  | _, _ => none
theorem ip_addI : IpR X pAddI (ipI fun i j => i + j) := by
  intro C F H ρ x y u v z Q hF hx hy e h
  cases u with
  | int i =>
    cases v with
    | int j => cases e; cases hx; cases hy; exact ⟨i, j, rfl, rfl, h F H _ (Grow.refl hF) (.int _)⟩
    | _ => cases e
  | _ => cases e
theorem ip_subI : IpR X pSubI (ipI fun i j => i - j) := by
  intro C F H ρ x y u v z Q hF hx hy e h
  cases u with
  | int i =>
    cases v with
    | int j => cases e; cases hx; cases hy; exact ⟨i, j, rfl, rfl, h F H _ (Grow.refl hF) (.int _)⟩
    | _ => cases e
  | _ => cases e
/-! ### constants of the module -/
theorem h_glob {x : Str} {v : V} {u : Value} {z : PV} (hg : Gl X x) (hm : X.mg x = some u) (r : RelV v u) (rz : ∀ F ρ, Rep X.K C F ρ v z) (hd : (x == ("__debug__" : Str)) = false := by decide) : PE X (.Name x pos) (rE X.K C E (eC z)) := by
  refine (pe_glob hg hm r hd).imp ?_
  rintro σ H Q ⟨w, env, S, s, h⟩
  exact h w H (Wd.le.refl w) s v (rz _ _)
/-! ### calls with keywords, with defaults -/
section
variable {k : Nat} {f : Addr} {fd : FuncData} {ps ks : List Str} {x : Str} {es : List Expr} {kws : List Keyword} {ds dk : Exs} {fn : Fn} {g : List Value → List Value → List Value} {n m : Nat} {dvs : List V} {dsv : List Value} {dps : List PV}
/-- f(e, .., k = v, ..): all parameters written, the keywords behind -/
def KBa (K : PySem.W.Frag) (fd : FuncData) (ps : List Str) (n : Nat) (ks : List Str) : Prop := ∀ (s : Shared) (us ws : List Value), K.In s.heap → us.length = n → ws.length = ks.length → BindsTo s fd ⟨us, ks.zip ws⟩ (ps.zip (us ++ ws))
def eCallK (f : Fn) (a b : Exs) : Ex := fun env S => (a env S).bind fun us S => (b env S).bind fun vs S => f (us ++ vs) S
theorem h_callK (F : FnOk X.prog X.w X.K X.mg X.base (L2.CX X.prog X.w) k f fd ps (spF X.K C fn (n + m))) (hr : Room k X.A) (hg : Gl X x) (hm : X.mg x = some (.ref f)) (hk : PySem.W.keepIn X.K (.ref f) = true) (hb : KBa X.K fd ps n ks) (tk : Takes X E)
    (ha : PA X (e :: es) (rA X.K C E ds)) (hkw : PK X kws (rA X.K C E dk)) (hl : ∀ env S us S', ds env S = .ok us S' → us.length = n) (hl2 : ∀ env S us S', dk env S = .ok us S' → us.length = m) (hkl : ks.length = m := by rfl) (hall : (backToKw pos (keywordEach kws X.env)).all (·.1.isSome) = true := by rfl) (hks : (backToKw pos (keywordEach kws X.env)).filterMap (·.1) = ks := by rfl)
    (hdb : (x == ("__debug__" : Str)) = false := by decide) (he : starEach (e :: es) X.env = (false, eval e X.env) :: starEach es X.env := by rfl)
    (hpl : ((backTo pos (starEach (e :: es) X.env)).any (·.1) || (backToKw pos (keywordEach kws X.env)).any (·.1.isNone)) = false := by rfl) :
    PE X (.Call (.Name x p) (e :: es) kws pos) (rE X.K C E (eCallK fn ds dk)) := by
  refine ⟨fun pins s σ H Q I q => ?_⟩
  obtain ⟨w, env, S, sm, h⟩ := q
  unfold eCallK at h
  refine wpAny_Call_Name_kw (ld_glob I hg hm ?_ hdb)
  have q1 : rA X.K C E ds σ H (fun vs H1 => rA X.K C E dk σ H1 (fun zs H2 => vs.length = n ∧ zs.length = m ∧ spF X.K C fn (n + m) (vs ++ zs) H2 Q (WE E σ))) := by
    refine ⟨w, env, S, sm, ?_⟩
    cases hd : ds env S with
    | ex c S1 => rw [hd] at h; exact h
    | bad => rw [hd] at h; exact h
    | ok us S1 =>
      rw [hd] at h
      have h : Wp X.K C E w env σ ((dk env S1).bind fun vs S => fn (us ++ vs) S) _ := h
      intro w1 H1 le1 s1 vs rv
      refine ⟨w1, env, S1, s1, ?_⟩
      have h := h.up le1
      cases hd2 : dk env S1 with
      | ex c S2 => rw [hd2] at h; exact h
      | bad => rw [hd2] at h; exact h
      | ok us2 S2 =>
        rw [hd2] at h
        have h : Wp X.K C E w1 env σ (fn (us ++ us2) S2) _ := h
        intro w2 H2 le2 s2 zs rz
        have l1 := hl _ _ _ _ hd
        have l2 := hl2 _ _ _ _ hd2
        refine ⟨by rw [rv.length]; exact l1, by rw [rz.length]; exact l2, ?_⟩
        exact call_rd s2 ((RepLW.up le2 rv).append rz) (by rw [List.length_append, l1, l2]) (h.up le2) fun v S' w' H' y s' p r => p y r
  refine PySem.W.callWith_KW (h₀ := X.base) I.ok.mod.kin hk hall (thn (ha.run pos pins s σ H _ I q1) fun us s1 ⟨vs, H1, I1, r, q2⟩ => ?_) hpl he
  refine thn (hkw.run pos pins s1 σ H1 _ I1 q2) fun ws s2 ⟨zs, H2, I2, rz, l1, l2, q3⟩ => ⟨I2.kIn, ?_⟩
  rw [hks]
  have b := hb s2 us ws I2.kIn (r.length.symm.trans l1) (rz.length.symm.trans (l2.trans hkl.symm))
  refine wpAny_call (codeAny_mono (F.run X.A X.stack s2 H2 ⟨us, ks.zip ws⟩ (us ++ ws) (vs ++ zs) Q (WE E σ) hr I2.env0 b (r.append rz) q3) fun r s' hq => ?_)
  cases r with
  | error e => exact passAt tk σ pins H2 s2 e s' I2 hq
  | ok fl =>
    cases fl with
    | ret u => exact I2.after hq
    | next => exact False.elim hq
    | brk => exact False.elim hq
    | cont => exact False.elim hq
def eCallD (f : Fn) (dps : List PV) (a : Exs) : Ex := fun env S => (a env S).bind fun us S => f (us ++ dps) S
/-- f(e, ..), the last ones' defaults stand in -/
theorem h_callD (F : FnOk X.prog X.w X.K X.mg X.base (L2.CX X.prog X.w) k f fd ps (spF X.K C fn n)) (hr : Room k X.A) (hg : Gl X x) (hm : X.mg x = some (.ref f)) (hk : PySem.W.keepIn X.K (.ref f) = true) (hb : ∃ dsv, Vals dvs dsv ∧ Binds X.K fd ps dsv) (hdr : ∀ F ρ, RepL X.K C F ρ dvs dps) (tk : Takes X E)
    (ha : PA X (e :: es) (rA X.K C E ds)) (hl : ∀ env S us S', ds env S = .ok us S' → (us ++ dps).length = n) (hdb : (x == ("__debug__" : Str)) = false := by decide) (he : starEach (e :: es) X.env = (false, eval e X.env) :: starEach es X.env := by rfl) (hpl : (backTo pos (starEach es X.env)).any (·.1) = false := by rfl) :
    PE X (.Call (.Name x p) (e :: es) [] pos) (rE X.K C E (eCallD fn dps ds)) := by
  obtain ⟨dsv, hv, hb⟩ := hb
  refine (pe_callSD F hr hg hm hk hb hv (passAt tk) ha hdb he hpl).imp ?_
  rintro σ H Q ⟨w, env, S, s, h⟩
  unfold eCallD at h
  refine ⟨w, env, S, s, ?_⟩
  cases hd : ds env S with
  | ok us S1 =>
    rw [hd] at h
    have h : Wp X.K C E w env σ (fn (us ++ dps) S1) _ := h
    intro w1 H1 le1 s1 vs rv
    exact call_rd s1 (rv.append (hdr _ _)) (hl _ _ _ _ hd) (h.up le1) fun v S' w' H' y s' p r => p y r
  | ex c S1 => rw [hd] at h; exact h
  | bad => rw [hd] at h; exact h
end
/-! ### our own becomes a value -/
theorem Sim.fz (s : Sim K C w env S σ H) {i : Nat} {xs : List PV} (e : env[i]? = some (.own (.lst xs))) : ∃ w', w.le w' ∧ Sim K C w' (env.set i (.v (.lst xs))) S σ H := by
  have hlt := (List.getElem?_eq_some_iff.mp e).1
  obtain ⟨q, z1, fr, o⟩ := own_at s e
  -- first the slot is let go
  have s0 : Sim K C w (env.set i .un) S σ H := by
    refine ⟨s.f, s.b, s.fb, s.lb, by simpa using s.le, fun j x e2 => ?_, fun j k x y a e1 e2 m1 m2 q1 q2 => ?_, s.ln, s.nd, s.cl⟩
    · by_cases hj : j = i
      · subst hj; rw [List.getElem?_set_self hlt] at e2; cases e2; trivial
      · rw [List.getElem?_set_ne (Ne.symm hj)] at e2; exact s.sl j x e2
    · have nj : ∀ (j : Nat) (x : SV), (env.set i .un)[j]? = some x → x.mine = true → env[j]? = some x := fun j x e m => by
        by_cases hj : j = i
        · subst hj; rw [List.getElem?_set_self hlt] at e; cases e; cases m
        · rw [List.getElem?_set_ne (Ne.symm hj)] at e; exact e
      exact s.od j k x y a (nj j x e1 m1) (nj k y e2 m2) m1 m2 q1 q2
  have nm : NotMine (env.set i .un) σ q := fun j x e2 m e3 => by
    by_cases hj : j = i
    · subst hj; rw [List.getElem?_set_self hlt] at e2; cases e2; cases m
    · rw [List.getElem?_set_ne (Ne.symm hj)] at e2
      exact hj (s.od j i x _ q e2 e m rfl e3 z1)
  obtain ⟨w1, le, s1, r⟩ := fz_l s0 fr nm o
  refine ⟨w1, le, ⟨s1.f, s1.b, s1.fb, s1.lb, by simpa using s1.le, fun j x e2 => ?_, fun j k x y a e1 e2 m1 m2 q1 q2 => ?_, s1.ln, s1.nd, s1.cl⟩⟩
  · by_cases hj : j = i
    · subst hj
      rw [List.getElem?_set_self hlt] at e2
      cases e2
      exact ⟨_, z1, r⟩
    · rw [List.getElem?_set_ne (Ne.symm hj)] at e2
      exact s1.sl j x (by rw [List.getElem?_set_ne (Ne.symm hj)]; exact e2)
  · have nj : ∀ (j : Nat) (x : SV), (env.set i (.v (.lst xs)))[j]? = some x → x.mine = true → (env.set i .un)[j]? = some x := fun j x e m => by
      by_cases hj : j = i
      · subst hj; rw [List.getElem?_set_self hlt] at e; cases e; cases m
      · rw [List.getElem?_set_ne (Ne.symm hj)] at e ⊢; exact e
    exact s1.od j k x y a (nj j x e1 m1) (nj k y e2 m2) m1 m2 q1 q2
/-- from here on slot i is a plain value -/
theorem h_fzS (i : Nat) (h : PSs X sts (rS X.K C E sa)) : PSs X sts (rS X.K C E (sSeq (sFz i) sa)) := by
  refine h.imp ?_
  rintro D σ H ⟨w, env, S, s, h⟩
  unfold sSeq sFz at h
  cases q : env[i]? with
  | none => rw [q] at h; exact (show False from h).elim
  | some y =>
    rw [q] at h
    cases y with
    | un => exact (show False from h).elim
    | lk y => exact (show False from h).elim
    | v y => exact ⟨w, _, S, s, h⟩
    | own y =>
      cases y with
      | lst xs =>
        obtain ⟨w1, le, s1⟩ := s.fz q
        exact ⟨w1, _, S, s1, SpR.up (show SpR X.K C E D w (sa (env.set i (.v (.lst xs))) S) from h) le⟩
      | _ => exact (show False from h).elim
/-! ### x = l.pop(k) -/
theorem popP_ok {q : Addr} {u u' k y : PV} {z : V} (h : popP u k = some (u', y)) (o : ObjR K C w H q u) (rk : Rep K C w.F w.ρ z k) : ∃ vs i j v, H q = some (.lst vs) ∧ z = .int i ∧ -(2 ^ 63) ≤ i ∧ i < 2 ^ 63 ∧ seqIndex? i vs.length = some j ∧ vs[j]? = some v ∧ Rep K C w.F w.ρ v y ∧ ObjR K C w (upd H q (.lst (vs.eraseIdx j))) q u' := by
  cases u with
  | lst xs =>
    cases k with
    | int i =>
      unfold popP at h
      dsimp only at h
      split at h
      · rename_i hi
        obtain ⟨i0, i1⟩ := Bool.and_eq_true_iff.mp hi
        obtain ⟨j, h1, h2⟩ := Option.bind_eq_some_iff.mp h
        obtain ⟨y', h3, h4⟩ := Option.map_eq_some_iff.mp h2
        cases h4
        obtain ⟨vs, e, rl⟩ := o
        cases rk
        obtain ⟨v, g1, g2⟩ := rl.get h3
        exact ⟨vs, i, j, v, e, rfl, of_decide_eq_true i0, of_decide_eq_true i1, by rw [rl.length]; exact h1, g1, g2, _, upd_same, rl.eraseIdx j⟩
      · cases h
    | _ => cases h
  | _ => cases h
/-- the pop as an expression whose end stores: slots t (what comes), i (whose list it is) -/
theorem pop_rd {t i : Nat} {dk : Ex} {x : Str} (s : Sim K C w env S σ H) (h : SpR K C E D w (sPop t i dk env S)) : tBM K "list" rPopAt (fun σ H Q => ∃ v, σ[i]? = some (some v) ∧ Q v H) (tCons (rE K C E dk) tNil) σ H fun x H1 => D.nx (σ.set t (some x)) H1 := by
  unfold sPop at h
  split at h
  · rename_i xs e1
    obtain ⟨q, z1, fr, o⟩ := own_at s e1
    obtain ⟨vs, z2, _⟩ := o
    refine ⟨.ref q, z1, .inl ⟨rfl, vs, SqL.of z2⟩, w, env, S, s, ?_⟩
    cases hd : dk env S with
    | ex c S1 => rw [hd] at h; exact fun w1 H1 le s1 => h w1 H1 σ le s1
    | bad => rw [hd] at h; exact h.elim
    | ok v S1 =>
      rw [hd] at h
      intro w1 H1 le s1 y ry
      cases ha : popP (.lst xs) v with
      | none => simp only [ha] at h; exact h.elim
      | some uy =>
        obtain ⟨u', y'⟩ := uy
        simp only [ha] at h
        cases hg : setV t (.v y') (env.set i (.own u')) with
        | none => simp only [hg] at h; exact h.elim
        | some env2 =>
          simp only [hg] at h
          split at h
          · exact h.elim
          · obtain ⟨vs, a, j, v2, g1, rfl, g2, g3, g4, g5, g6, g7⟩ := popP_ok ha (own_same s1 e1 z1) ry
            refine ⟨q, vs, a, j, v2, rfl, rfl, g1, g2, g3, g4, g5, ?_⟩
            have s2 := s1.ownU e1 z1 g7
            exact h w1 _ _ le (s2.putV hg g6)
  · exact h.elim
theorem h_pop {t i : Nat} {x l : Str} {dk : Ex} {k : Expr} {p1 pt apos cpos : Pos} (hN : X.N.Nodup) (hi : X.N[t]? = some x) (hx : Loc X.env.scope x) (hl : X.N[i]? = some l) (hv : Vis X.env.scope l) (hk : PE X k (rE X.K C E dk))
    (hd : (l == ("__debug__" : Str)) = false := by decide) (hcd : (l == ("__classdict__" : Str)) = false := by decide)
    (hline : (apos.endLine == cpos.line) = true := by rfl) (hbase : attributeBase (.Name l p1) "pop" X.env (eval (.Name l p1) X.env) = eval (.Name l p1) X.env := by rfl)
    (hs : starEach [k] X.env = [(false, eval k X.env)] := by rfl)
    (hfew : ((backTo cpos (starEach [k] X.env)).all (fun x => !x.1) && (backToKw cpos (keywordEach [] X.env)).all (fun x => x.1.isSome)
      && decide ([k].length + ([] : List Keyword).length + (if ([] : List Keyword).isEmpty then 0 else 1) < 30)) = true := by rfl)
    (hsw : swapsWith (.Call (.Attribute (.Name l p1) "pop" apos) [k] [] cpos) (some (.Name x pt)) pos.line X.env = pure false := by rfl) (hf : X.fn x = true ∨ X.env.scope.names.lookup x = some .local := by first | exact .inl rfl | exact .inr rfl | assumption) :
    PS X (.Assign [.Name x pt] (.Call (.Attribute (.Name l p1) "pop" apos) [k] [] cpos) pos) (rS X.K C E (sPop t i dk)) :=
  (ps_set hN hi hx (pe_bm PySem.F.plainAttrs_list PySem.F.slot_list_pop PySem.F.type_list_pop mt_popAt (pe_var (i := i) hl hv hd hcd) (pa_cons hk pa_nil hs) hbase hfew hline hs) hsw hf).imp fun D σ H ⟨w, env, S, s, h⟩ => pop_rd (x := x) s h
/-- x = l.pop(k) if c else b -/
def sPopIf (t i : Nat) (c k b : Ex) : Sm := sIf c (sPop t i k) (sPut (tgN t) b)
theorem h_popIf {t i : Nat} {x l : Str} {dk : Ex} {k : Expr} {p1 pt apos cpos : Pos} (hN : X.N.Nodup) (hi : X.N[t]? = some x) (hx : Loc X.env.scope x) (hl : X.N[i]? = some l) (hv : Vis X.env.scope l) (hc : PT X c (rT X.K C E dc)) (hk : PE X k (rE X.K C E dk)) (hb : PE X b (rE X.K C E db))
    (hd : (l == ("__debug__" : Str)) = false := by decide) (hcd : (l == ("__classdict__" : Str)) = false := by decide)
    (hline : (apos.endLine == cpos.line) = true := by rfl) (hbase : attributeBase (.Name l p1) "pop" X.env (eval (.Name l p1) X.env) = eval (.Name l p1) X.env := by rfl)
    (hs : starEach [k] X.env = [(false, eval k X.env)] := by rfl)
    (hfew : ((backTo cpos (starEach [k] X.env)).all (fun x => !x.1) && (backToKw cpos (keywordEach [] X.env)).all (fun x => x.1.isSome)
      && decide ([k].length + ([] : List Keyword).length + (if ([] : List Keyword).isEmpty then 0 else 1) < 30)) = true := by rfl)
    (hsw : swapsWith (.IfExp c (.Call (.Attribute (.Name l p1) "pop" apos) [k] [] cpos) b p2) (some (.Name x pt)) pos.line X.env = pure false := by rfl) (hf : X.fn x = true ∨ X.env.scope.names.lookup x = some .local := by first | exact .inl rfl | exact .inr rfl | assumption) :
    PS X (.Assign [.Name x pt] (.IfExp c (.Call (.Attribute (.Name l p1) "pop" apos) [k] [] cpos) b p2) pos) (rS X.K C E (sPopIf t i dc dk db)) := by
  refine (ps_set hN hi hx (pe_ifExp hc (pe_bm PySem.F.plainAttrs_list PySem.F.slot_list_pop PySem.F.type_list_pop mt_popAt (pe_var (i := i) hl hv hd hcd) (pa_cons hk pa_nil hs) hbase hfew hline hs) hb) hsw hf).imp ?_
  rintro D σ H ⟨w, env, S, s, h⟩
  unfold sPopIf sIf at h
  refine ⟨w, env, S, s, ?_⟩
  cases hd : dc env S with
  | ex c S1 => rw [hd] at h; exact fun w1 H1 le s1 => h w1 H1 σ le s1
  | bad => rw [hd] at h; exact h.elim
  | ok v S1 =>
    rw [hd] at h
    intro w1 H1 le s1
    cases v with
    | bl q =>
      refine ⟨q, rfl, ?_⟩
      cases q with
      | true => exact iteT (pop_rd (x := x) s1 (SpR.up h le))
      | false =>
        refine iteF ?_
        have z := put_rd (is := [t]) s1 (SpR.up h le)
        obtain ⟨w, env, S, s, z⟩ := z
        refine ⟨w, env, S, s, z.mono fun v S' w' H' _ _ p x r => ?_⟩
        obtain ⟨w2, env2, S2, v2, env3, s2, r2, hg, q⟩ := p x r
        exact q _ (s2.putV hg r2) Chg.set
    | _ => exact h.elim
end
end Hw

set_option maxRecDepth 100000
set_option maxHeartbeats 4000000
namespace Hw
open PySem PySem.Spec L2
open PyProof.Rows (envOfC)
/-! ### constants that the top has written -/
mutual
def konst (K : PySem.W.Frag) : PV → Value → Bool
  | .non, .none => true
  | .bl b, .bool c => b == c
  | .int i, .int j _ => decide (i = j)
  | .str x, .str y _ => decide (x = y)
  | .tup xs, .ref a => (match K.lookup a with
    | some ⟨.type c, _, .seq its _, _⟩ => decide (c = "tuple") && (decide (its.size ≤ sizeLine) && konstL K xs its.toList)
    | _ => false)
  | _, _ => false
termination_by structural x => x
def konstL (K : PySem.W.Frag) : List PV → List Value → Bool
  | [], [] => true
  | x :: xs, v :: vs => konst K x v && konstL K xs vs
  | _, _ => false
termination_by structural x => x
end
mutual
/-- the value of the layer that stands for it -/
def konV : PV → Value → V
  | .bl b, _ => .bl b
  | .int i, _ => .int i
  | .str x, _ => .str x
  | .tup _, .ref a => .ref a
  | _, _ => .non
end
def konVL : List PV → List Value → List V
  | x :: xs, v :: vs => konV x v :: konVL xs vs
  | _, _ => []
mutual
theorem konst_ok {K : PySem.W.Frag} : ∀ {x : PV} {v : Value}, konst K x v = true → RelV (konV x v) v ∧ ∀ (C : Kx → Addr) (F : Hp) (ρ : List Addr), Rep K C F ρ (konV x v) x
  | .non, v, h => by
    cases v with
    | none => exact ⟨rfl, fun _ _ _ => .non⟩
    | _ => cases h
  | .bl b, v, h => by
    cases v with
    | bool c =>
      have e : b = c := eq_of_beq (show (b == c) = true from h)
      subst e
      exact ⟨rfl, fun _ _ _ => .bl _⟩
    | _ => cases h
  | .int i, v, h => by
    cases v with
    | int j t =>
      have e : i = j := of_decide_eq_true h
      subst e
      exact ⟨⟨t, rfl⟩, fun _ _ _ => .int _⟩
    | _ => cases h
  | .str i, v, h => by
    cases v with
    | str j t =>
      have e : i = j := of_decide_eq_true h
      subst e
      exact ⟨⟨t, rfl⟩, fun _ _ _ => .str _⟩
    | _ => cases h
  | .tup xs, v, h => by
    cases v with
    | ref a =>
      have h1 : (match K.lookup a with
        | some ⟨.type c, _, .seq its _, _⟩ => decide (c = "tuple") && (decide (its.size ≤ sizeLine) && konstL K xs its.toList)
        | _ => false) = true := h
      cases q : K.lookup a with
      | none => rw [q] at h1; cases h1
      | some o =>
        obtain ⟨oc, od, dt, osl⟩ := o
        rw [q] at h1
        cases oc with
        | type c =>
          cases dt with
          | seq its n =>
            obtain ⟨h2, h3⟩ := He.ba (show (decide (c = "tuple") && (decide (its.size ≤ sizeLine) && konstL K xs its.toList)) = true from h1)
            obtain ⟨h4, h5⟩ := He.ba h3
            obtain ⟨r1, r2⟩ := konstL_ok h5
            exact ⟨rfl, fun C F ρ => .tup (.inr ⟨_, its, n, q, congrArg Value.type (of_decide_eq_true h2), rfl, of_decide_eq_true h4, r1⟩) (r2 C F ρ)⟩
          | _ => cases h1
        | _ => cases dt <;> cases h1
    | _ => cases h
  | .lst _, v, h => by cases v <;> cases h
  | .dI _, v, h => by cases v <;> cases h
  | .dT _, v, h => by cases v <;> cases h
  | .exc _, v, h => by cases v <;> cases h
  | .ptr _, v, h => by cases v <;> cases h
  | .kls _, v, h => by cases v <;> cases h
termination_by structural x => x
theorem konstL_ok {K : PySem.W.Frag} : ∀ {xs : List PV} {vs : List Value}, konstL K xs vs = true → Vals (konVL xs vs) vs ∧ ∀ (C : Kx → Addr) (F : Hp) (ρ : List Addr), RepL K C F ρ (konVL xs vs) xs
  | [], [], _ => ⟨.nil, fun _ _ _ => .nil⟩
  | [], _ :: _, h => by cases h
  | _ :: _, [], h => by cases h
  | x :: xs, v :: vs, h => by
    obtain ⟨h1, h2⟩ := He.ba (show (konst K x v && konstL K xs vs) = true from h)
    obtain ⟨a, b⟩ := konst_ok h1
    obtain ⟨c, d⟩ := konstL_ok h2
    exact ⟨.cons a c, fun C F ρ => .cons (b C F ρ) (d C F ρ)⟩
termination_by structural x => x
end
/-- the module's name x stands for the plain value z -/
def conB (K : PySem.W.Frag) (x : Str) (z : PV) : Bool := match PySem.W.nsIn K mainGlobals x with
  | some (some u) => konst K z u
  | _ => false
theorem conB_ok {K : PySem.W.Frag} {h : Heap} {mg : Str → Option Value} (X : K.In h) (G : h.Ns mainGlobals mg) {x : Str} {z : PV} (c : conB K x z = true) : ∃ (u : Value) (v : V), mg x = some u ∧ RelV v u ∧ ∀ (C : Kx → Addr) (F : Hp) (ρ : List Addr), Rep K C F ρ v z := by
  unfold conB at c
  cases q : PySem.W.nsIn K mainGlobals x with
  | none => rw [q] at c; cases c
  | some o =>
    rw [q] at c
    cases o with
    | none => cases c
    | some u =>
      obtain ⟨a, b⟩ := konst_ok c
      exact ⟨u, _, PySem.W.mg_of X G q, a, b⟩
/-- the value of the keyword-only default x of the def named f -/
def kwAt (f x : Str) (K : PySem.W.Frag) : Value := match K.lookup (He.ga K f) with
  | some ⟨_, _, .func fd, _⟩ => (match fd.kwdefaults with
    | .ref D => (match PySem.W.nsIn K D x with
      | some (some u) => u
      | _ => .none)
    | _ => .none)
  | _ => .none
def kwA (f x : Str) (K : PySem.W.Frag) : Addr := match kwAt f x K with
  | .ref a => a
  | _ => 0
theorem kwA_ok {K : PySem.W.Frag} {f x : Str} {xs : List PV} (h : konst K (.tup xs) (kwAt f x K) = true) (C : Kx → Addr) (F : Hp) (ρ : List Addr) : Rep K C F ρ (.ref (kwA f x K)) (.tup xs) := by
  have z := (konst_ok h).2 C F ρ
  cases q : kwAt f x K with
  | ref a =>
    have e : kwA f x K = a := by unfold kwA; rw [q]
    rw [q] at z
    rw [e]
    exact z
  | _ => rw [q] at h; cases h
/-! ### the Hook -/
abbrev AlE : Type := He.AlD × Bool
def obsE (n : Nat) (fa : List He.Fa) (fn : List He.DefD) (ex : PySem.W.Frag → Bool) (g : Addr → Option Obj) : AlE := (He.obsD fa fn (He.frG g (He.asD g n)), ex (He.frG g (He.asD g n)))
def valE (fn : List He.DefD) : AlE := (He.valD fn, true)
def hookE (n : Nat) (fa : List He.Fa) (fn : List He.DefD) (ex : PySem.W.Frag → Bool) : PySem.W.Hook where
  α := AlE
  obs := fun s => obsE n fa fn ex s.heap.get?
  val := fun _ => valE fn
  says := fun _ h => ∃ K : PySem.W.Frag, K.In h ∧ He.SaysD fa fn K ∧ ex K = true
  of := fun _ _ e => ⟨_, He.frG_in, congrArg (fun z : AlE => z.1) e, congrArg (fun z : AlE => z.2) e⟩
  keeps := fun _ _ _ ⟨K, hK, c⟩ k => ⟨K, PySem.W.Frag.In.keeps hK k, c⟩
theorem obsE_eq {n : Nat} {fa : List He.Fa} {fn : List He.DefD} {ex : PySem.W.Frag → Bool} {g : Addr → Option Obj} {s : Shared} (h : ∀ a, g a = s.heap.get? a) : obsE n fa fn ex g = (hookE n fa fn ex).obs s := by
  have e : g = s.heap.get? := funext h
  rw [e] <;> rfl
/-- a law's end; what may be let out leans on the world -/
theorem walk_ofW {l : PySem.W.OpenLaw} {n k : Nat} {q : Program} {loose : List Str} {XP : (Str → Option Value) → Heap → Prop} {YP : World → Heap → Prop} {d : DefRec} {CX : World → CXT} {x : Str}
    (hn : l.most = some n) (hn2 : n ≤ sizeLine) (hdf : d.params.defaults = []) (hr : Room k callerA)
    (F : ∀ (w : World) (mg : Str → Option Value) (fa : Addr) (h : Heap), YP w h → h.Ns mainGlobals mg → mg d.name = some (.ref fa) →
      ∃ (K : PySem.W.Frag) (fd : FuncData) (sp : Sp), K.In h ∧ (∀ (s : Shared) (u : Value), BindsTo s fd ⟨[u], []⟩ [(x, u)]) ∧
        (∀ (H : Hp) (a : Addr) (ns : List Int), ns.length ≤ n → Only H → SqL K H a (ns.map V.int) → sp [.ref a] H (fun v _ => v = .bl true) fun _ _ _ => False) ∧
        ∀ base : Heap, K.In base → base.Ns mainGlobals mg → FnOk l.prog w K mg base (CX w) k fa fd [x] sp)
    (hCX : ∀ (w : World) (H : Hp) (s : Shared) (e : Value) (s' : Shared), CX w [] H s (fun _ _ _ => False) e s' → False) :
    PySem.W.WalkO q loose XP YP l.row.toRowW d [] (fun f vs => PySem.call f vs) := by
  refine Att.attach_call hn hdf fun w s₀ s₁ mg mb fa o pm cd doc a vs ns G Y ho hd hcd hmg hobj hints hlen hg => ?_
  obtain ⟨K, fd, sp, KX, hb, hsp, hF⟩ := F w mg fa _ Y G.T.g hmg
  exact law_call KX G.T.g G.T.b G.T.builtins G.T.nolimit hg hobj hints (Nat.le_trans hlen hn2) hr hF hb (fun H hO hS => hsp H a ns hlen hO hS) fun H e s' => hCX w H s₁ e s'
theorem cx_false {P : Program} {w : World} {H : Hp} {s : Shared} {e : Value} {s' : Shared} (h : L2.CX P w [] H s (fun _ _ _ => False) e s') : False := by
  obtain ⟨_, _, _, _, _, _, _, _, _, _, _, _, h⟩ := h
  exact h
end Hw

set_option maxRecDepth 100000
set_option maxHeartbeats 4000000
namespace Hw
open PySem PySem.Spec L2
open PyProof.Rows (envOfC)
abbrev E0 : WX := fun _ _ _ _ => False
section
variable {X : Cx} {C : Kx → Addr} {E : WX} {a b c e tg : Expr} {da db dc : Ex} {sa sb sc : Sm} {pos p p2 : Pos} {st : Stmt} {sts : List Stmt} {K : PySem.W.Frag} {w w' : Wd} {env env' : En} {S S' : Sto} {σ σ' : L2.St} {H H' : Hp} {D : Ends} {F F' : Hp} {ρ : List Addr}
/-! ### what is never come to -/
def eBad : Ex := fun _ _ => .bad
def sBad : Sm := fun _ _ => .bad
theorem h_badE : PE X e (rE X.K C E eBad) := ⟨fun pins s σ H Q I ⟨w, env, S, _, h⟩ => h.elim⟩
theorem h_badS : PS X st (rS X.K C E sBad) := ⟨fun pins s σ H D I ⟨w, env, S, _, h⟩ => h.elim⟩
/-! ### places by themselves -/
def plOf : PV → Pl
  | .ptr n => .cell n
  | v => .val v
/-- the value, or the cell it points to -/
def pA (d : Ex) : Plx := fun env S => (d env S).bind fun v S => .ok (plOf v) S
def pN (i : Nat) : Plx := fun env S => match env[i]? with
  | some (.v x) => .ok (plOf x) S
  | some .un => .bad
  | some _ => .ok (.slot i) S
  | none => .bad
theorem seen_pl {v : PV} {x : V} (r : Rep K C w.F w.ρ x v) : SeenP K C w σ x (plOf v) := by
  cases v with
  | ptr n => cases r with | ptr r => exact ⟨_, r, rfl⟩
  | _ => exact r
theorem p_a {d : Ex} (h : PE X e (rE X.K C E d)) : PE X e (rP X.K C E (pA d)) := by
  refine h.imp ?_
  rintro σ H Q ⟨w, env, S, s, h⟩
  exact ⟨w, env, S, s, h.bind.mono fun u S1 w1 H1 le1 s1 h1 x rx => h1 w1 H1 (Wd.le.refl _) s1 x (seen_pl rx)⟩
theorem p_n (i : Nat) {x : Str} {pos : Pos} (hN : X.N[i]? = some x := by rfl) (hv : Vis X.env.scope x := by first | exact Or.inl rfl | exact Or.inr (Or.inl rfl) | exact Or.inr (Or.inr rfl)) (hd : (x == ("__debug__" : Str)) = false := by decide)
    (hcd : (x == ("__classdict__" : Str)) = false := by decide) : PE X (.Name x pos) (rP X.K C E (pN i)) := by
  refine (pe_var (X := X) (i := i) hN hv hd hcd).imp ?_
  rintro σ H Q ⟨w, env, S, s, h⟩
  unfold pN at h
  cases q : env[i]? with
  | none => rw [q] at h; exact h.elim
  | some y =>
    rw [q] at h
    have z := s.sl i y q
    cases y with
    | un => exact h.elim
    | v t => obtain ⟨o, h1, h2⟩ := z; exact ⟨o, h1, h w H (Wd.le.refl _) s o (seen_pl h2)⟩
    | own t => obtain ⟨o, h1, _, h2⟩ := z; exact ⟨_, h1, h w H (Wd.le.refl _) s _ h1⟩
    | lk t => obtain ⟨o, _, h1, h2⟩ := z; exact ⟨_, h1, h w H (Wd.le.refl _) s _ h1⟩
/-! ### the script -/
def pNeK (u v : PV) : Option PV := match u, v with
  | .kls ns, .lst [] => some (.bl (!ns.isEmpty))
  | u, v => pNe u v
def pListK (u : PV) : Option PV := match u with
  | .kls ns => some (.lst (ns.map .int))
  | u => pList u
theorem dp_ints : ∀ ns : List Int, DpAll K H (ns.map V.int) (ns.map PyData.int)
  | [] => .nil
  | n :: ns => .cons (.int n) (dp_ints ns)
theorem lay_ints : ∀ ns : List Int, PyData.canLayAll0 (ns.map PyData.int) = true ∧ PyData.depthAll (ns.map PyData.int) ≤ 0
  | [] => ⟨rfl, Nat.le_refl _⟩
  | n :: ns => by
    obtain ⟨a, b⟩ := lay_ints ns
    refine ⟨?_, ?_⟩
    · show PyData.canLayAll0 (PyData.int n :: ns.map PyData.int) = true
      rw [PyData.canLayAll0, a] <;> rfl
    · show PyData.depthAll (PyData.int n :: ns.map PyData.int) ≤ 0
      rw [PyData.depthAll]
      exact Nat.max_le.mpr ⟨Nat.le_refl _, b⟩
theorem s_neK : Op2 K pNeK (rNeD K) := by
  intro C F H ρ x y u v z Q hF hx hy e h
  have old : pNe u v = some z → rNeD K x y H Q := fun e => s_ne C F H ρ x y u v z Q hF hx hy e h
  cases u with
  | kls ns =>
    cases v with
    | lst ys =>
      cases ys with
      | nil =>
        cases e
        obtain ⟨a, vs, rfl, q, r⟩ := hy.lst hF
        cases r
        rcases hx with hx | ⟨_, _, hx⟩
        · cases hx with
          | kls q2 =>
            refine ⟨.list (ns.map PyData.int), .list [], .lst (SqL.le hF q2) (dp_ints ns), .lst (.inl q) .nil, ?_, by decide, ?_⟩
            · unfold SeqAt.shaped
              obtain ⟨l1, l2⟩ := lay_ints ns
              have e1 : (PyData.list (ns.map PyData.int)).canLay0 = true := l1
              have e2 : (PyData.list (ns.map PyData.int)).depth ≤ 1 := Nat.succ_le_succ l2
              rw [e1, Bool.true_and, decide_eq_true_eq]
              omega
            · have e3 : (!PyData.eqv (.list (ns.map PyData.int)) (.list [])) = !ns.isEmpty := by
                cases ns <;> rfl
              rw [e3]
              exact h F H _ (Grow.refl hF) (.bl _)
        · exact hx.elim
      | cons y ys => exact old e
    | _ => exact old e
  | _ => exact old e
theorem s_listK : Op1 K pListK fun x H Q => ∃ p ys, [x] = [V.ref p] ∧ (SqL K H p ys ∨ SqT K H p ys) ∧ ∀ l, H l = none → Q (.ref l) (upd H l (.lst ys)) := by
  intro C F H ρ x u z Q hF hx e h
  cases u with
  | kls ns =>
    cases e
    rcases hx with hx | ⟨_, _, hx⟩
    · cases hx with
      | kls q2 => exact ⟨_, _, rfl, .inl (SqL.le hF q2), new_lst hF (RepL.ints ns) h⟩
    · exact hx.elim
  | lst xs => exact s_list C F H ρ x _ z Q hF hx e h
  | tup xs => exact s_list C F H ρ x _ z Q hF hx e h
  | _ => cases e
/-- list(x), to be changed -/
theorem h_listN {x : Str} {da : Plx} (hg : Gl X x) (hm : X.mg x = none) (hv : bootBuiltins x = some (.type "list")) (ha : PE X a (rP X.K C E da)) (hn : x ≠ "__name__" := by decide) (hdb : (x == ("__debug__" : Str)) = false := by decide)
    (he : starEach [a] X.env = [(false, eval a X.env)] := by rfl) : PE X (.Call (.Name x p) [a] [] pos) (rN X.K C E (eP1 pListK da)) := by
  refine (pe_callTy call_list_of hg hm hv (pa_cons ha pa_nil he) hn hdb he).imp ?_
  rintro σ H Q ⟨w, env, S, s, h⟩
  show rP X.K C E da σ H fun y H1 => ∃ p ys, [y] = [V.ref p] ∧ (SqL X.K H1 p ys ∨ SqT X.K H1 p ys) ∧ ∀ l, H1 l = none → Q (.ref l) (upd H1 l (.lst ys))
  unfold eP1 at h
  refine ⟨w, env, S, s, h.bind.mono fun p S1 w1 H1 le1 s1 h1 y ry => ?_⟩
  split at h1
  · rename_i u e
    have go : ∀ (ys : List V) (xs : List PV), RepL X.K C w1.F w1.ρ ys xs → (∀ w' H', w1.le w' → Sim X.K C w' env S1 σ H' → ∀ p, Fr1 w' p → NotMine env σ p → ObjR X.K C w' H' p (.lst xs) → Q (.ref p) H') → ∀ l, H1 l = none → Q (.ref l) (upd H1 l (.lst ys)) := fun ys xs r h l hl => by
      obtain ⟨s2, fr, nm⟩ := s1.loose (o := .lst ys) hl
      exact h _ _ (Wd.le.refl _) s2 l fr nm ⟨_, upd_same, r⟩
    have sn := ry.seen s1 e
    cases u with
    | kls ns =>
      rcases sn with hx | ⟨_, _, hx⟩
      · cases hx with
        | kls q2 => exact ⟨_, _, rfl, .inl (SqL.le s1.f q2), go _ _ (RepL.ints ns) h1⟩
      · exact hx.elim
    | lst xs =>
      obtain ⟨a, vs, rfl, q, r⟩ := sn.lst s1.f
      exact ⟨a, vs, rfl, .inl (.inl q), go _ _ r h1⟩
    | tup xs =>
      obtain ⟨a, vs, rfl, q, r⟩ := sn.tup
      exact ⟨a, vs, rfl, .inr (SqT.le s1.f q), go _ _ r h1⟩
    | _ => exact h1.elim
  · exact h1.elim
theorem h_ifN (hc : PT X c (rT X.K C E dc)) (ha : PE X a (rN X.K C E da)) (hb : PE X b (rN X.K C E db)) : PE X (.IfExp c a b pos) (rN X.K C E (eIf dc da db)) := by
  refine (pe_ifExp hc ha hb).imp ?_
  rintro σ H Q ⟨w, env, S, s, h⟩
  unfold eIf at h
  refine ⟨w, env, S, s, h.bind.mono fun u S1 w1 H1 le1 s1 h1 => ?_⟩
  cases u with
  | bl k =>
    refine ⟨k, rfl, ?_⟩
    cases k with
    | true => rw [if_pos rfl]; exact ⟨w1, env, S1, s1, h1⟩
    | false => rw [if_neg Bool.false_ne_true]; exact ⟨w1, env, S1, s1, h1⟩
  | _ => exact h1.elim
/-- a constant of the module -/
theorem h_con {x : Str} {z : PV} (hg : Gl X x) (hm : ∃ (u : Value) (v : V), X.mg x = some u ∧ RelV v u ∧ ∀ (C : Kx → Addr) (F : Hp) (ρ : List Addr), Rep X.K C F ρ v z) (hd : (x == ("__debug__" : Str)) = false := by decide) : PE X (.Name x pos) (rE X.K C E (eC z)) := by
  obtain ⟨u, v, h1, h2, h3⟩ := hm
  exact h_glob hg h1 h2 (fun F ρ => h3 C F ρ) hd
theorem hw_and1' (ha : PT X a (rT X.K C E da)) : PT X (.BoolOp .And [a] pos) (rT X.K C E da) := (hw_and1 ha).pt
/-- what the arguments' number is -/
def exsLen (n : Nat) (d : Exs) : Prop := ∀ env S us S', d env S = .ok us S' → us.length = n
theorem el_nil : exsLen 0 esNil := fun env S us S' h => by cases h; rfl
theorem el_cons {n : Nat} {d : Ex} {ds : Exs} (h : exsLen n ds) : exsLen (n + 1) (esCons d ds) := fun env S us S' e => by
  unfold esCons at e
  cases h1 : d env S with
  | ex c S1 => rw [h1] at e; cases e
  | bad => rw [h1] at e; cases e
  | ok u S1 =>
    rw [h1] at e
    simp only [R.bind] at e
    cases h2 : ds env S1 with
    | ex c S1 => rw [h2] at e; cases e
    | bad => rw [h2] at e; cases e
    | ok us2 S2 => rw [h2] at e; cases e; simp [h _ _ _ _ h2]
end
end Hw

set_option maxRecDepth 100000
set_option maxHeartbeats 4000000
namespace Hw
open PySem PySem.Spec L2
open PyProof.Rows (envOfC)
/-! ### defs as callees -/
def blkB (N : List Str) (sc scope : Scope) (own : List (Str × Nat)) : Bool :=
  decide (scope.kind = .function) && scope.names.all (fun y => decide (scope.names.lookup y.1 = some y.2)) && own.all (fun p => decide (N[p.2]? = some p.1)) &&
    scope.names.all (fun y => !decide (y.2 = .free) || (decide (sc.names.lookup y.1 = some .cell) || decide (sc.names.lookup y.1 = some .free))) &&
    scope.names.all (fun y => !(decide (y.2 = .local) || decide (y.2 = .cell)) || (decide (y.1 ∈ own.map (·.1)) || !decide (y.1 ∈ N)))
theorem blk_ok {N : List Str} {sc scope : Scope} {own : List (Str × Nat)} (h : blkB N sc scope own = true) : BlkOk N sc scope own := by
  unfold blkB at h
  simp only [Bool.and_eq_true] at h
  obtain ⟨⟨⟨⟨h1, h2⟩, h3⟩, h4⟩, h5⟩ := h
  refine ⟨of_decide_eq_true h1, fun y hy => of_decide_eq_true (List.all_eq_true.mp h2 y hy), fun p hp => of_decide_eq_true (List.all_eq_true.mp h3 p hp), fun y hy e => ?_, fun y hy e => ?_⟩
  · have z := List.all_eq_true.mp h4 y hy
    simp only [Bool.or_eq_true, decide_eq_true_eq, Bool.not_eq_true', decide_eq_false_iff_not] at z
    rcases z with z | z
    · exact absurd e z
    · exact z
  · have z := List.all_eq_true.mp h5 y hy
    simp only [Bool.or_eq_true, decide_eq_true_eq, Bool.not_eq_true', decide_eq_false_iff_not, Bool.or_eq_false_iff] at z
    rcases z with ⟨z1, z2⟩ | z
    · rcases e with e | e
      · exact absurd e z1
      · exact absurd e z2
    · exact z
section
variable {P : Program} {W : World} {K : PySem.W.Frag} {mg : Str → Option Value} {base : Heap} {C : Kx → Addr}
/-- x is a def at level k that does fn, called with n values -/
def Cal (P : Program) (W : World) (K : PySem.W.Frag) (mg : Str → Option Value) (base : Heap) (C : Kx → Addr) (x : Str) (k n : Nat) (fn : Fn) : Prop :=
  ∃ (f : Addr) (fd : FuncData) (ps : List Str), mg x = some (.ref f) ∧ PySem.W.keepIn K (.ref f) = true ∧ FnOk P W K mg base (L2.CX P W) k f fd ps (spF K C fn n) ∧ Binds K fd ps []
/-- .. n values and keywords ks behind -/
def CalK (P : Program) (W : World) (K : PySem.W.Frag) (mg : Str → Option Value) (base : Heap) (C : Kx → Addr) (x : Str) (k n m : Nat) (ks : List Str) (fn : Fn) : Prop :=
  ks.length = m ∧ ∃ (f : Addr) (fd : FuncData) (ps : List Str), mg x = some (.ref f) ∧ PySem.W.keepIn K (.ref f) = true ∧ FnOk P W K mg base (L2.CX P W) k f fd ps (spF K C fn (n + m)) ∧ KBa K fd ps n ks
/-- .. n values, defaults dps behind -/
def CalD (P : Program) (W : World) (K : PySem.W.Frag) (mg : Str → Option Value) (base : Heap) (C : Kx → Addr) (x : Str) (k n : Nat) (dps : List PV) (fn : Fn) : Prop :=
  ∃ (f : Addr) (fd : FuncData) (ps : List Str) (dvs : List V), mg x = some (.ref f) ∧ PySem.W.keepIn K (.ref f) = true ∧ FnOk P W K mg base (L2.CX P W) k f fd ps (spF K C fn (n + dps.length)) ∧ (∃ dsv, Vals dvs dsv ∧ Binds K fd ps dsv) ∧ ∀ F ρ, RepL K C F ρ dvs dps
/-- THE RULE for a def -/
theorem fn_okD {x qual : Str} {params : Arguments} {body : List Stmt} {scope : Scope} {dvs : List V} {kws : List (Str × V)} {f : Addr} {fd : FuncData} {N ps : List Str} {k : Nat} {d : Sm} (F : FunD K x qual params body scope dvs kws f fd) (S : FnScope N ps scope)
    (hbody : ∀ (cdv : Value) (A : Around) (outer : List PySem.Env) (s : Shared) (H : Hp) (EX : XK), Room k (A.deeper (envOfC qual scope s.heap.objs.size f cdv)) →
      PSs (cxOf (L2.CX P W) P W K mg base N qual scope f cdv A outer s H EX) body (rS K C (XE1 EX) d)) :
    FnOk P W K mg base (L2.CX P W) (k + 1) f fd ps (spF K C (runFn N.length d) ps.length) :=
  F.ok S spF_len fun cdv A outer s H vs Q EX hr hsp => ⟨_, hbody cdv A outer s H EX hr, body_rd (FnScope.le S) hsp⟩
theorem FunD.kba {x qual : Str} {params : Arguments} {body : List Stmt} {scope : Scope} {kws : List (Str × V)} {f : Addr} {fd : FuncData} {ps ks : List Str} {n : Nat} (F : FunD K x qual params body scope [] kws f fd)
    (h : ∀ (kV doc pm : Value) (an : Option Addr) (cdv ct : Value) (us ws : List Value), us.length = n → ws.length = ks.length → bindArgs (PySem.W.fnOf x qual params body scope .none kV doc pm an cdv ct) ⟨us, ks.zip ws⟩ = pure (ps.zip (us ++ ws))) : KBa K fd ps n ks := by
  obtain ⟨oc, od, dV, kV, doc, pm, an, cdv, ct, osl, rfl, lk, hcd, hD, hK⟩ := F.ex
  rcases hD with ⟨_, rfl⟩ | ⟨e, _⟩
  · exact fun s us ws _ h1 h2 => .of_eq (h kV doc pm an cdv ct us ws h1 h2)
  · exact absurd rfl e
end
section
variable {X : Cx} {C : Kx → Addr} {E : WX} {pos p : Pos} {x : Str} {k n m : Nat} {fn : Fn} {e : Expr} {es : List Expr} {ds dk : Exs} {ks : List Str} {kws : List Keyword} {dps : List PV}
theorem hc_call (H : Cal X.prog X.w X.K X.mg X.base C x k n fn) (hr : Room k X.A) (tk : Takes X E) (hg : Gl X x) (ha : PA X (e :: es) (rA X.K C E ds)) (hl : exsLen n ds) (hdb : (x == ("__debug__" : Str)) = false := by decide) (he : starEach (e :: es) X.env = (false, eval e X.env) :: starEach es X.env := by rfl) (hpl : (backTo pos (starEach es X.env)).any (·.1) = false := by rfl) :
    PE X (.Call (.Name x p) (e :: es) [] pos) (rE X.K C E (eCall fn ds)) := by
  obtain ⟨f, fd, ps, hm, hk, F, hb⟩ := H
  exact h_call F hr hg hm hk hb tk ha hl hdb he hpl
theorem hc_callK (H : CalK X.prog X.w X.K X.mg X.base C x k n m ks fn) (hr : Room k X.A) (tk : Takes X E) (hg : Gl X x) (ha : PA X (e :: es) (rA X.K C E ds)) (hkw : PK X kws (rA X.K C E dk)) (hl : exsLen n ds) (hl2 : exsLen m dk) (hall : (backToKw pos (keywordEach kws X.env)).all (·.1.isSome) = true := by rfl) (hks : (backToKw pos (keywordEach kws X.env)).filterMap (·.1) = ks := by rfl)
    (hdb : (x == ("__debug__" : Str)) = false := by decide) (he : starEach (e :: es) X.env = (false, eval e X.env) :: starEach es X.env := by rfl)
    (hpl : ((backTo pos (starEach (e :: es) X.env)).any (·.1) || (backToKw pos (keywordEach kws X.env)).any (·.1.isNone)) = false := by rfl) :
    PE X (.Call (.Name x p) (e :: es) kws pos) (rE X.K C E (eCallK fn ds dk)) := by
  obtain ⟨hkl, f, fd, ps, hm, hk, F, hb⟩ := H
  exact h_callK F hr hg hm hk hb tk ha hkw hl hl2 hkl hall hks hdb he hpl
theorem hc_callD (H : CalD X.prog X.w X.K X.mg X.base C x k n dps fn) (hr : Room k X.A) (tk : Takes X E) (hg : Gl X x) (ha : PA X (e :: es) (rA X.K C E ds)) (hl : exsLen n ds) (hdb : (x == ("__debug__" : Str)) = false := by decide) (he : starEach (e :: es) X.env = (false, eval e X.env) :: starEach es X.env := by rfl) (hpl : (backTo pos (starEach es X.env)).any (·.1) = false := by rfl) :
    PE X (.Call (.Name x p) (e :: es) [] pos) (rE X.K C E (eCallD fn dps ds)) := by
  obtain ⟨f, fd, ps, dvs, hm, hk, F, hb, hr2⟩ := H
  exact h_callD F hr hg hm hk hb hr2 tk ha (fun env S us S' h => by rw [List.length_append, hl env S us S' h]) hdb he hpl
/-- the block's test list -/
theorem ht_none : PTs X [] (rT X.K C E eYes) := by
  refine ⟨fun pins s σ H Q I q => ?_⟩
  obtain ⟨w, env, S, z, h⟩ := q
  obtain ⟨b, e, h⟩ := h w H (Wd.le.refl _) z
  cases e
  exact pts_nil.run pins s σ H Q I h
theorem ht_one {c : Expr} {d : Ex} (h : PT X c (rT X.K C E d)) : PTs X [c] (rT X.K C E d) := pts_one h
theorem hu64 {k : Nat} {A : Around} (r : Room k A) : A.units + 64 < cLine := by have := r.un; omega
theorem hu65 {k : Nat} {A : Around} (r : Room k A) : A.units + 65 < cLine := by have := r.un; omega
theorem bb_len : bootBuiltins "len" = some (.builtin "len") := by decide +kernel
theorem bb_all : bootBuiltins "all" = some (.builtin "all") := by decide +kernel
theorem bb_any : bootBuiltins "any" = some (.builtin "any") := by decide +kernel
theorem bb_abs : bootBuiltins "abs" = some (.builtin "abs") := by decide +kernel
theorem bb_max : bootBuiltins "max" = some (.builtin "max") := by decide +kernel
theorem bb_min : bootBuiltins "min" = some (.builtin "min") := by decide +kernel
theorem bb_sum : bootBuiltins "sum" = some (.builtin "sum") := by decide +kernel
theorem bb_sorted : bootBuiltins "sorted" = some (.builtin "sorted") := by decide +kernel
theorem bb_tuple : bootBuiltins "tuple" = some (.type "tuple") := by decide +kernel
theorem bb_list : bootBuiltins "list" = some (.type "list") := by decide +kernel
theorem bb_int : bootBuiltins "int" = some (.type "int") := by decide +kernel
theorem bb_bool : bootBuiltins "bool" = some (.type "bool") := by decide +kernel
theorem bb_dict : bootBuiltins "dict" = some (.type "dict") := by decide +kernel
theorem bb_str : bootBuiltins "str" = some (.type "str") := by decide +kernel
end
/-- the law's own promise, at the door -/
theorem law_sp {K : PySem.W.Frag} {C : Kx → Addr} {f : Fn} {n : Nat} (main : ∀ ns : List Int, ns.length ≤ n → ∃ S', f [.kls ns] [] = R.ok (.bl true) S') (H : Hp) (a : Addr) (ns : List Int) (hl : ns.length ≤ n) (hO : Only H) (hS : SqL K H a (ns.map V.int)) :
    spF K C f 1 [.ref a] H (fun v _ => v = .bl true) fun _ _ _ => False := by
  refine ⟨⟨H, fun _ => none, [], fun _ => none⟩, [], [.kls ns], ⟨Le.refl _, fun _ _ e => (by cases e), fun _ _ e => (by cases e), fun _ _ e => (by cases e), Nat.le_refl _, fun _ _ e => (by simp at e), fun _ _ _ _ _ e => (by simp at e), rfl, List.nodup_nil, fun _ _ _ e => (by simp at e)⟩, .cons (.kls hS) .nil, rfl, ?_⟩
  obtain ⟨S', e⟩ := main ns hl
  rw [e]
  exact fun w' H' x _ _ r => rep_bl r
end Hw

set_option maxRecDepth 100000
set_option maxHeartbeats 4000000
namespace Hw
open PySem PySem.Spec L2
open PyProof.Rows (envOfC)
/-! ### calls with any keywords -/
/-- the items at these places -/
def sel {α : Type} (idx : List Nat) (l : List α) : List α := idx.filterMap fun i => l[i]?
theorem sel_len {α : Type} {l : List α} : ∀ {idx : List Nat}, (∀ i ∈ idx, i < l.length) → (sel idx l).length = idx.length
  | [], _ => rfl
  | i :: idx, h => by
    have hi := h i (by simp)
    have ih := sel_len (idx := idx) fun j hj => h j (by simp [hj])
    unfold sel at ih ⊢
    rw [List.filterMap_cons, List.getElem?_eq_getElem hi]
    simp [ih]
theorem vals_get : ∀ {vs : List V} {us : List Value}, Vals vs us → ∀ i : Nat, (vs[i]? = none ∧ us[i]? = none) ∨ ∃ v u, vs[i]? = some v ∧ us[i]? = some u ∧ RelV v u
  | _, _, .nil, i => .inl ⟨by simp, by simp⟩
  | _, _, .cons r t, 0 => .inr ⟨_, _, rfl, rfl, r⟩
  | _, _, .cons _ t, i + 1 => by simpa using vals_get t i
theorem vals_sel {vs : List V} {us : List Value} (r : Vals vs us) : ∀ idx : List Nat, Vals (sel idx vs) (sel idx us)
  | [] => .nil
  | i :: idx => by
    have ih := vals_sel r idx
    unfold sel at ih ⊢
    rw [List.filterMap_cons, List.filterMap_cons]
    rcases vals_get r i with ⟨h1, h2⟩ | ⟨v, u, h1, h2, h3⟩
    · rw [h1, h2]; exact ih
    · rw [h1, h2]; exact .cons h3 ih
theorem rep_sel {K : PySem.W.Frag} {C : Kx → Addr} {F : Hp} {ρ : List Addr} {vs : List V} {xs : List PV} (r : RepL K C F ρ vs xs) : ∀ idx : List Nat, RepL K C F ρ (sel idx vs) (sel idx xs)
  | [] => .nil
  | i :: idx => by
    have ih := rep_sel r idx
    unfold sel at ih ⊢
    rw [List.filterMap_cons, List.filterMap_cons]
    cases q : xs[i]? with
    | none =>
      have : vs[i]? = none := by
        rw [List.getElem?_eq_none_iff] at q ⊢
        rw [r.length]; exact q
      rw [this]; exact ih
    | some x =>
      obtain ⟨v, h1, h2⟩ := r.get q
      rw [h1]; exact .cons h2 ih
section
variable {P : Program} {W : World} {K : PySem.W.Frag} {mg : Str → Option Value} {base : Heap} {C : Kx → Addr}
/-- how such a call binds: n values, keywords ks, the defaults that lack are mv -/
def KBg (K : PySem.W.Frag) (fd : FuncData) (ps : List Str) (n : Nat) (ks : List Str) (mv : List Value) (idx : List Nat) : Prop := ∀ (s : Shared) (us ws : List Value), K.In s.heap → us.length = n → ws.length = ks.length → BindsTo s fd ⟨us, ks.zip ws⟩ (ps.zip (sel idx (us ++ mv ++ ws)))
theorem FunD.bindsG {x qual : Str} {params : Arguments} {body : List Stmt} {scope : Scope} {kws : List (Str × V)} {f : Addr} {fd : FuncData} {ps : List Str} (F : FunD K x qual params body scope [] kws f fd) (n : Nat) (ks : List Str) (ms : List (Str × V)) (idx : List Nat) (hms : ∀ q ∈ ms, q ∈ kws) (hk : kws ≠ [])
    (h : ∀ (D : Addr) (doc pm : Value) (an : Option Addr) (cdv ct : Value) (us mv ws : List Value), us.length = n → mv.length = ms.length → ws.length = ks.length →
      KwChain D ((ms.map (·.1)).zip mv) (bindArgs (PySem.W.fnOf x qual params body scope .none (.ref D) doc pm an cdv ct) ⟨us, ks.zip ws⟩) (ps.zip (sel idx (us ++ mv ++ ws)))) : ∃ mv, Vals (ms.map (·.2)) mv ∧ KBg K fd ps n ks mv idx := by
  obtain ⟨oc, od, dV, kV, doc, pm, an, cdv, ct, osl, rfl, lk, hcd, hD, hK⟩ := F.ex
  rcases hD with ⟨_, rfl⟩ | ⟨e, _⟩
  · rcases hK with e | ⟨D, rfl, hq⟩
    · exact absurd e hk
    · obtain ⟨mv, hl, rk, hks⟩ := kwd_vals (ms := ms) fun q hm => hq q (hms q hm)
      exact ⟨mv, rk, fun s us ws X l1 l2 => BindsTo.of_looks fun M => KwChain.looks X hks (h D doc pm an cdv ct us mv ws l1 hl l2)⟩
  · exact absurd rfl e
/-- x: n values and keywords ks; the defaults dps; idx puts them in order -/
def CalG (P : Program) (W : World) (K : PySem.W.Frag) (mg : Str → Option Value) (base : Heap) (C : Kx → Addr) (x : Str) (k n m : Nat) (ks : List Str) (dps : List PV) (idx : List Nat) (fn : Fn) : Prop :=
  ks.length = m ∧ (∀ i ∈ idx, i < n + dps.length + m) ∧ ∃ (f : Addr) (fd : FuncData) (ps : List Str) (dvs : List V) (mv : List Value), mg x = some (.ref f) ∧ PySem.W.keepIn K (.ref f) = true ∧ FnOk P W K mg base (L2.CX P W) k f fd ps (spF K C fn idx.length) ∧ Vals dvs mv ∧ KBg K fd ps n ks mv idx ∧ ∀ F ρ, RepL K C F ρ dvs dps
end
def eCallG (f : Fn) (dps : List PV) (idx : List Nat) (a b : Exs) : Ex := fun env S => (a env S).bind fun us S => (b env S).bind fun ws S => f (sel idx (us ++ dps ++ ws)) S
section
variable {X : Cx} {C : Kx → Addr} {E : WX} {pos p : Pos} {x : Str} {k n m : Nat} {fn : Fn} {e : Expr} {es : List Expr} {ds dk : Exs} {ks : List Str} {kws : List Keyword} {dps : List PV} {idx : List Nat}
theorem hc_callG (H0 : CalG X.prog X.w X.K X.mg X.base C x k n m ks dps idx fn) (hr : Room k X.A) (tk : Takes X E) (hg : Gl X x) (ha : PA X (e :: es) (rA X.K C E ds)) (hkw : PK X kws (rA X.K C E dk)) (hl : exsLen n ds) (hl2 : exsLen m dk) (hall : (backToKw pos (keywordEach kws X.env)).all (·.1.isSome) = true := by rfl) (hks : (backToKw pos (keywordEach kws X.env)).filterMap (·.1) = ks := by rfl)
    (hdb : (x == ("__debug__" : Str)) = false := by decide) (he : starEach (e :: es) X.env = (false, eval e X.env) :: starEach es X.env := by rfl)
    (hpl : ((backTo pos (starEach (e :: es) X.env)).any (·.1) || (backToKw pos (keywordEach kws X.env)).any (·.1.isNone)) = false := by rfl) :
    PE X (.Call (.Name x p) (e :: es) kws pos) (rE X.K C E (eCallG fn dps idx ds dk)) := by
  obtain ⟨hkl, hix, f, fd, ps, dvs, mv, hm, hk, F, hv, hb, hdr⟩ := H0
  refine ⟨fun pins s σ H Q I q => ?_⟩
  obtain ⟨w, env, S, sm, h⟩ := q
  unfold eCallG at h
  refine wpAny_Call_Name_kw (ld_glob I hg hm ?_ hdb)
  have q1 : rA X.K C E ds σ H (fun vs H1 => rA X.K C E dk σ H1 (fun zs H2 => vs.length = n ∧ zs.length = m ∧ spF X.K C fn idx.length (sel idx (vs ++ dvs ++ zs)) H2 Q (WE E σ))) := by
    refine ⟨w, env, S, sm, ?_⟩
    cases hd : ds env S with
    | ex c S1 => rw [hd] at h; exact h
    | bad => rw [hd] at h; exact h
    | ok us S1 =>
      rw [hd] at h
      have h : Wp X.K C E w env σ ((dk env S1).bind fun vs S => fn (sel idx (us ++ dps ++ vs)) S) _ := h
      intro w1 H1 le1 s1 vs rv
      refine ⟨w1, env, S1, s1, ?_⟩
      have h := h.up le1
      cases hd2 : dk env S1 with
      | ex c S2 => rw [hd2] at h; exact h
      | bad => rw [hd2] at h; exact h
      | ok us2 S2 =>
        rw [hd2] at h
        have h : Wp X.K C E w1 env σ (fn (sel idx (us ++ dps ++ us2)) S2) _ := h
        intro w2 H2 le2 s2 zs rz
        have l1 := hl _ _ _ _ hd
        have l2 := hl2 _ _ _ _ hd2
        refine ⟨by rw [rv.length]; exact l1, by rw [rz.length]; exact l2, ?_⟩
        exact call_rd s2 (rep_sel (((RepLW.up le2 rv).append (hdr _ _)).append rz) idx) (sel_len fun i hi => by rw [List.length_append, List.length_append, l1, l2]; exact hix i hi) (h.up le2) fun v S' w' H' y s' p r => p y r
  refine PySem.W.callWith_KW (h₀ := X.base) I.ok.mod.kin hk hall (thn (ha.run pos pins s σ H _ I q1) fun us s1 ⟨vs, H1, I1, r, q2⟩ => ?_) hpl he
  refine thn (hkw.run pos pins s1 σ H1 _ I1 q2) fun ws s2 ⟨zs, H2, I2, rz, l1, l2, q3⟩ => ⟨I2.kIn, ?_⟩
  rw [hks]
  have b := hb s2 us ws I2.kIn (r.length.symm.trans l1) (rz.length.symm.trans (l2.trans hkl.symm))
  refine wpAny_call (codeAny_mono (F.run X.A X.stack s2 H2 ⟨us, ks.zip ws⟩ _ _ Q (WE E σ) hr I2.env0 b (vals_sel ((r.append hv).append rz) idx) q3) fun r s' hq => ?_)
  cases r with
  | error e => exact passAt tk σ pins H2 s2 e s' I2 hq
  | ok fl =>
    cases fl with
    | ret u => exact I2.after hq
    | next => exact False.elim hq
    | brk => exact False.elim hq
    | cont => exact False.elim hq
end
end Hw

set_option maxRecDepth 100000
set_option maxHeartbeats 4000000
namespace Hw
open PySem PySem.Spec L2
open PyProof.Rows (envOfC)
/-! ### refusals -/
/-- the class x stands at C c and is a ValueError's heir without a maker of its own -/
structure ExcT (K : PySem.W.Frag) (mg : Str → Option Value) (C : Kx → Addr) (x : Str) (c : Kx) : Prop where
  g : mg x = some (.ref (C c))
  q : PySem.W.excIn K (C c) He.veBase "ValueError.__new__" = true
  kp : PySem.W.keepIn K (.ref (C c)) = true
  sb : PySem.W.subIn K (.ref (C c)) (.type "BaseException") = some true
  ty : PySem.W.typeIn K (.ref (C c)) = some (.type "type")
theorem excT_of {K : PySem.W.Frag} {mg : Str → Option Value} {h : Heap} {C : Kx → Addr} {x : Str} {c : Kx} (X : K.In h) (G : h.Ns mainGlobals mg) (hC : C c = He.ga K x) (f1 : (He.Fa.glo x).ok K = true) (f2 : (He.Fa.exc x).ok K = true) : ExcT K mg C x c := by
  obtain ⟨a, b, d, e⟩ := He.exc_ok f2
  exact ⟨by rw [hC]; exact He.glo_ok X G f1, by rw [hC]; exact a, by rw [hC]; exact b, by rw [hC]; exact d, by rw [hC]; exact e⟩
section
variable {X : Cx} {C : Kx → Addr} {E : WX} {pos p p2 cpos : Pos} {x m : Str} {j : Nat} {c : Kx}
/-- raise X('m') -/
theorem h_raiseK (T : ExcT X.K X.mg C x c) (hc : X.calm = true) (tk : Takes X E) (hg : Gl X x) (hdb : (x == ("__debug__" : Str)) = false := by decide) : PS X (.Raise (some (.Call (.Name x p) [.Constant (.str m) j p2] [] cpos)) none pos) (rS X.K C E (sRaise c)) :=
  h_raise (t := fun _ _ _ => True) (k := c) hc tk (pmk_own PySem.F.excBase_ValueError T.q T.g T.kp (raises_own T.sb T.ty) hg hdb)
end
end Hw

set_option maxRecDepth 100000
set_option maxHeartbeats 4000000
namespace Hw
open PySem PySem.Spec L2
open PyProof.Rows (envOfC)
/-! ### a caught error becomes a thing that we know -/
theorem adopt {X : Cx} {pins : List (Addr × Obj)} {σ : L2.St} {H : Hp} {s : Shared} {a : Addr} {φ : Heap → Prop} (I : Inv X pins σ H s) (hn : H a = none) (h0 : X.s_0.heap.get? a = none) (hp : ∀ p ∈ X.pn ++ pins, p.1 ≠ a) (hl : a ≠ X.env.locals) (hd : ∀ o v, s.heap.get? a = some o → o.data ≠ .cell v)
    (new : ObjOk X.prog X.w (upd H a (.ext φ)) s.heap a (.ext φ)) : Inv X pins σ (upd H a (.ext φ)) s := by
  have ne0 : ∀ {b : Addr} {u : Obj}, X.s_0.heap.get? b = some u → b ≠ a := fun {b u} e h => by rw [h, h0] at e; cases e
  refine ⟨I.ok, I.os, I.bare, ?_, I.loc, I.cell, ?_, fun x c e => ?_, fun p hp' => ?_, I.hok.laidN (fun _ _ e => e) hn new, I.len⟩
  · have B := I.base
    exact {
      keep := B.keep
      slot := B.slot
      free := fun b u q n e => by rw [upd_ne (ne0 q)]; exact B.free b u q n e
      there := B.there
      tups := fun b xs q => by
        have z := B.tups b xs q
        rw [upd_ne (ne_of_none z hn)]; exact z
      frzs := fun b u xs q => by
        have z := B.frzs b u xs q
        rw [upd_ne (ne_of_none z hn)]; exact z
      tbls := fun b ps q => by
        obtain ⟨qs, z⟩ := B.tbls b ps q
        exact ⟨qs, by rw [upd_ne (ne_of_none z hn)]; exact z⟩ }
  · rw [upd_ne (Ne.symm hl)]; exact I.free
  · obtain ⟨v, o, ho, hv⟩ := I.cell x c e
    rw [upd_ne (fun h => by rw [h] at ho; exact hd o v ho hv)]; exact I.freeC x c e
  · obtain ⟨p1, p2, p3⟩ := I.pin p hp'
    exact ⟨p1, by rw [upd_ne (hp p hp')]; exact p2, p3⟩
end Hw

set_option maxRecDepth 100000
set_option maxHeartbeats 4000000
namespace Hw
open PySem PySem.Spec L2
open PyProof.Rows (envOfC)
/-! ### try: .. / except C as n: y = n -/
/-- an error's object, as we know it -/
def errH (a : Addr) (cls : Value) (d : Option Addr) : HO := .ext fun h => ∃ (oe : Obj) (vs : Array Value), h.get? a = some oe ∧ Zc cls d oe ∧ oe.data = .fields vs
def wKeep (K : PySem.W.Frag) (c : Value) (i j : Nat) (Wout : WX) (D : Ends) : WX := fun cls d σ H =>
  ∃ b, PySem.W.exmOne K cls c = some b ∧ (b = true → ∀ a, H a = none → D.nx (((σ.set i (some (.ref a))).set j (some (.ref a))).set i none) (upd H a (errH a cls d))) ∧ (b = false → Wout cls d σ H)
section
variable {X : Cx} {x n y : Str} {c : Value} {i j : Nat} {body : List Stmt} {np np2 py ap pos pos' : Pos} {tb : WX → TS} {Wout : WX}
theorem ps_keep (hs : X.stack = X.env :: X.outer) (hf : X.env.frame = some X.env.locals) (hN : X.N.Nodup) (hi : X.N[i]? = some n) (hln : X.env.kindOf n = some .local) (hj : X.N[j]? = some y) (hyl : X.env.scope.names.lookup y = some .local) (hex : X.ex = []) (hc : Names X x c) (tk : Takes X Wout)
    (hd : (n == ("__debug__" : Str)) = false) (hcd : (n == ("__classdict__" : Str)) = false) (hsw : swapsWith (.Name n np2) (some (.Name y py)) ap.line X.env = pure false)
    (hb : ∀ (W : WX) (pn : List (Addr × Obj)) (xe : Value → Shared → Prop), Takes (X.tr pn xe) W → PassesOwn (model X.prog X.w) X.A X.env xe → PSs (X.tr pn xe) body (tb W)) :
    PS X (.Try body [.ExceptHandler (some (.Name x np)) (some n) [.Assign [.Name y py] (.Name n np2) ap] pos'] [] [] pos) (fun D σ H => tb (wKeep X.K c i j Wout D) D σ H) := by
  refine ⟨fun pins s σ H D I h => ?_⟩
  have okX := I.ok
  have ilen : i < X.N.length := (List.getElem?_eq_some_iff.mp hi).1
  let after : Value → Shared → Prop := fun e s₁ => wpAny (model X.prog X.w) X.A (noteFrame e X.env) (fun _ s₂ => wpAny (model X.prog X.w) X.A (setFlight e none) (fun _ s₃ => wpAny (model X.prog X.w) X.A (handleBy e X.env [.ExceptHandler (some (.Name x np)) (some n) [.Assign [.Name y py] (.Name n np2) ap] pos']) (SP X pins D) X.xe s₃) X.xe s₂) X.xe s₁
  have caught : Takes (X.tr (X.pn ++ pins) after) (wKeep X.K c i j Wout D) := by
    rintro u s' ⟨a, B, sI, pins', σ', H', cls, d, rfl, J0, nb, up, sky, na, os, ag, b, hb1, hyes, hno⟩
    have J : Inv X pins σ' H' sI := J0.ofTry okX
    have skyX : Sky B (X.env :: X.outer) a (Zc cls d) X.env.locals s'.heap := by rw [← hs]; exact sky
    show wpAny (model X.prog X.w) X.A (noteFrame (.ref a) X.env) _ _ _
    refine Sky.land Zc.steady (by rw [okX.frames, hs]) hf skyX fun g3 fl3 up3 => ?_
    obtain ⟨o3, v3, get3, z3, dat3⟩ := fl3.there
    have away : a ∉ frs (X.env :: X.outer) := fun hm => by
      obtain ⟨_, o', e', noFields⟩ := fl3.2.2.1.mem hm
      rw [get3] at e'
      cases e'
      exact noFields _ dat3
    have aL : a ≠ X.env.locals := fun z => away (List.mem_filterMap.mpr ⟨X.env, List.mem_cons_self, by rw [hf, z]⟩)
    have aF : a ∉ X.fs := fun hm => by
      obtain ⟨e, he, q⟩ := List.mem_filterMap.mp hm
      exact away (List.mem_filterMap.mpr ⟨e, List.mem_cons_of_mem _ he, q⟩)
    -- a is new
    have sIa : sI.heap.get? a = none := by
      cases q : sI.heap.get? a with
      | none => rfl
      | some o =>
        have z := nb a o q (by rw [hs]; exact away)
        rw [fl3.2.1] at z
        cases z
    have s0a : X.s_0.heap.get? a = none := by
      cases q : X.s_0.heap.get? a with
      | none => rfl
      | some o =>
        obtain ⟨o', z⟩ := J.base.there a o q (by rw [hex]; simp)
        rw [sIa] at z
        cases z
    have pinsA : ∀ p ∈ X.pn ++ pins, p.1 ≠ a := fun p hp z => by
      have q := (J.pin p hp).1
      rw [z, sIa] at q
      cases q
    have J3 : Inv X pins σ' H' { s' with heap := g3 } := J.landed nb fl3.1 (up.trans up3) os ag
    refine wpAny_handleBy_cons (codeAny_handlers_test ?_) (by intro q; cases q)
    have looksTy : PySem.W.Looks (model X.prog X.w) g3 (typeOf (.ref a)) cls := fun A Q E s k q => wpAny_typeOf_ref (k _ _ get3) (by rw [z3.1]; exact q)
    have looksM := PySem.W.exm_one (M := model X.prog X.w) (J3.kIn) looksTy hb1
    have S3 := J3.suite get3 dat3 na aL aF
    have byName : ∀ {Q : Value → Shared → Prop} {E : Value → Shared → Prop}, Q c { s' with heap := g3 } → wpAny (model X.prog X.w) (X.A.mark (some (.ref a))) (eval (.Name x np) X.env) Q E { s' with heap := g3 } := fun {Q E} q => by
      obtain ⟨hg, hdbg, hm | ⟨hm, hv, hnn⟩⟩ := hc
      · exact ld_glob (X := X.suite a ((a, o3) :: (X.pn ++ pins))) S3 hg hm q hdbg
      · exact ld_blt (X := X.suite a ((a, o3) :: (X.pn ++ pins))) S3 hg hm hv q hnn hdbg
    refine byName (looksM.here ?_)
    cases b with
    | false =>
      show wpAny _ X.A (handleBy (.ref a) X.env []) _ _ _
      refine wpAny_handleBy_nil ?_
      obtain ⟨_, _, _, oe, vs, T, oT, _, he, _, hd', h1, _⟩ := id fl3
      unfold PySem.passOn
      refine wpAny_bind (wpAny_field he hd' h1 ?_)
      rw [if_neg (show ¬ ((Value.ref T == Value.none) = true) from by simp)]
      have out : wpAny (model X.prog X.w) X.A (setFlight (.ref a) X.env.frame) (fun _ s4 => wpAny (model X.prog X.w) X.A (throw (.ref a) : Sem Flow) (SP X pins D) X.xe s4) X.xe { s' with heap := g3 } := by
        rw [hf]
        refine HandSPX.setFlight_upZ fl3 fun g4 held up4 => wpAny_throw (tk _ _ ?_)
        exact ⟨a, B, sI, pins, σ', H', cls, d, rfl, J, nb, (up.trans up3).trans up4, .inr (.inr (by rw [hs]; exact held)), na, os, ag, hno rfl⟩
      first
        | exact wpAny_bind (wpAny_pure (wpAny_bind out))
        | exact wpAny_bind out
    | true =>
      refine codeAny_handlers_suite_as ?_
      refine HandSPX.lands_againZ fl3 fun g4 fl4 up4 => ?_
      have J4 : Inv X pins σ' H' { s' with heap := g4 } := J.landed nb fl4.1 ((up.trans up3).trans up4) os ag
      obtain ⟨o4, v4, get4, z4, dat4⟩ := fl4.there
      have S4 := J4.suite get4 dat4 na aL aF
      refine store_ok (X := X.suite a ((a, o4) :: (X.pn ++ pins))) (v := .ref a) S4 hN hi (.inl hln) rfl (fun s5 S5 => ?_) (.inr hln)
      have il : i < σ'.length := by rw [J.len]; exact ilen
      have suite : PSs (X.suite a ((a, o4) :: (X.pn ++ pins))) [.Assign [.Name y py] (.Name n np2) ap] (tAsg (tVar i) (gName j)) :=
        pss_one (ps_set hN hj (.inl hyl) (pe_var (i := i) hi (.inl hln) hd hcd) hsw (.inr hyl))
      refine wpAny_mono (suite.run [] s5 _ H' { nx := fun σ6 H6 => σ6 = (σ'.set i (some (.ref a))).set j (some (.ref a)) ∧ H6 = H', rt := fun _ _ => False, bk := fun _ _ => False, ct := fun _ _ => False } S5 ⟨.ref a, by rw [List.getElem?_set_self il], rfl, rfl⟩) (fun f s6 hsp => ?_) (fun _ _ z => False.elim z)
      cases f with
      | next =>
        obtain ⟨σ6, H6, S6, rfl, rfl⟩ := hsp
        have keep := S6.pin (a, o4) (List.mem_append_left _ (List.mem_cons_self))
        have J6 := S6.unsuite okX
        have J7 := adopt (φ := fun h => ∃ (oe : Obj) (vs : Array Value), h.get? a = some oe ∧ Zc cls d oe ∧ oe.data = .fields vs) J6 na s0a pinsA aL (fun o v e z => by
          have q := keep.1.symm.trans e
          cases q
          rw [dat4] at z
          cases z) ⟨⟨o4, v4, keep.1, z4, dat4⟩, ⟨o4, keep.1⟩, fun _ _ ⟨o, v, q, r⟩ k => ⟨o, v, k o q, r⟩⟩
        exact gone_ok J7 hN hi hln fun s8 J8 => ⟨_, _, J8, hyes rfl a na⟩
      | brk => obtain ⟨_, _, _, z⟩ := hsp; exact z.elim
      | cont => obtain ⟨_, _, _, z⟩ := hsp; exact z.elim
      | ret u => obtain ⟨_, _, _, _, _, z⟩ := hsp; exact z.elim
  refine wpAny_Try_except (wpAny_mono ((hb _ (X.pn ++ pins) after caught PassesOwn.looking).run [] s σ H D (I.toTry _) h) (fun f s1 hsp => ?_) (fun e s1 he => he))
  cases f with
  | next =>
    obtain ⟨σ2, H2, J2, q⟩ := hsp
    exact wpAny_execs_nil ⟨σ2, H2, J2.ofTry okX, q⟩
  | brk =>
    obtain ⟨σ2, H2, J2, q⟩ := hsp
    exact ⟨σ2, H2, J2.ofTry okX, q⟩
  | cont =>
    obtain ⟨σ2, H2, J2, q⟩ := hsp
    exact ⟨σ2, H2, J2.ofTry okX, q⟩
  | ret u =>
    obtain ⟨v, σ2, H2, J2, r, q⟩ := hsp
    exact ⟨v, σ2, H2, J2.ofTry okX, r, q⟩
end
end Hw

set_option maxRecDepth 100000
set_option maxHeartbeats 4000000
namespace Hw
open PySem PySem.Spec L2
open PyProof.Rows (envOfC)
/-- try: b / except HushError as (slot i): (slot j) = it; all our errors are caught -/
def sTry (i j : Nat) (b : Sm) : Sm := fun env S => match b env S with
  | .ex c env S => match (setV j (.v (.exc c)) env).bind (setV i .un) with
    | some env => .nx env S
    | none => .bad
  | r => r
section
variable {X : Cx} {C : Kx → Addr} {E : WX} {x n y : Str} {c : Value} {i j : Nat} {body : List Stmt} {np np2 py ap pos pos' : Pos} {sb : Sm}
theorem h_try (hs : X.stack = X.env :: X.outer) (hf : X.env.frame = some X.env.locals) (hN : X.N.Nodup) (hi : X.N[i]? = some n) (hln : X.env.kindOf n = some .local) (hj : X.N[j]? = some y) (hyl : X.env.scope.names.lookup y = some .local) (hex : X.ex = []) (hij : i ≠ j) (hc : Names X x c) (hall : ∀ k, PySem.W.exmOne X.K (.ref (C k)) c = some true)
    (hd : (n == ("__debug__" : Str)) = false) (hcd : (n == ("__classdict__" : Str)) = false) (hsw : swapsWith (.Name n np2) (some (.Name y py)) ap.line X.env = pure false)
    (hb : ∀ (W : WX) (pn : List (Addr × Obj)) (xe : Value → Shared → Prop), Takes (X.tr pn xe) W → PassesOwn (model X.prog X.w) X.A X.env xe → PSs (X.tr pn xe) body (rS X.K C W sb)) :
    PS X (.Try body [.ExceptHandler (some (.Name x np)) (some n) [.Assign [.Name y py] (.Name n np2) ap] pos'] [] [] pos) (rS X.K C E (sTry i j sb)) := by
  refine (ps_keep (tb := fun W => rS X.K C W sb) (Wout := fun _ _ _ _ => False) (c := c) hs hf hN hi hln hj hyl hex hc takes0 hd hcd hsw hb).imp ?_
  rintro D σ H ⟨w, env, S, s, h⟩
  refine ⟨w, env, S, s, ?_⟩
  unfold sTry at h
  cases hr : sb env S with
  | nx e S' => rw [hr] at h; exact h
  | rt v S' => rw [hr] at h; exact h
  | bk e S' => rw [hr] at h; exact h
  | ct e S' => rw [hr] at h; exact h
  | bad => rw [hr] at h; exact h.elim
  | ex k e S' =>
    rw [hr] at h
    dsimp only at h
    cases hb2 : (setV j (.v (.exc k)) e).bind (setV i .un) with
    | none => rw [hb2] at h; exact h.elim
    | some e3 =>
      rw [hb2] at h
      obtain ⟨e2, h1, h2⟩ := Option.bind_eq_some_iff.mp hb2
      refine fun w1 H1 σ1 le s1 => ⟨true, hall k, fun _ a ha => ?_, fun z => by cases z⟩
      obtain ⟨s2, le2⟩ := s1.grow (Grow.one (o := errH a (.ref (C k)) none) s1.f ha)
      have s3 := s2.putV h1 (u := .ref a) (.exc upd_same)
      have s4 := s3.put (u := none) h2 (show SlotR X.K C _ _ i (some none) .un from trivial) (fun _ _ _ _ _ _ _ z => nomatch z)
      have e4 : ((σ1.set i (some (.ref a))).set j (some (.ref a))).set i none = (σ1.set j (some (.ref a))).set i none := by
        rw [List.set_comm _ _ hij, List.set_set]
      rw [e4]
      exact h _ _ _ (le.trans le2) s4
end
end Hw

set_option maxRecDepth 100000
set_option maxHeartbeats 4000000
namespace Hw
open PySem PySem.Spec L2
open PyProof.Rows (envOfC)
/-! ### isinstance of a kept error -/
def rIsEx (K : PySem.W.Frag) : List V → Hp → VK → Prop := fun xs H Q => ∃ (a D : Addr) (c : V) (cv : Value) (b : Bool), xs = [.ref a, c] ∧ H a = some (errH a (.ref D) none) ∧ ExcC K D ∧ (∀ u, RelV c u → u = cv) ∧ PySem.W.kitOne K (.ref D) cv = some b ∧ Q (.bl b) H
theorem call_isEx {X : Cx} : CallR X (.builtin "isinstance") (rIsEx X.K) := by
  intro pins s σ H xs us Q I r h
  obtain ⟨a, D, c, cv, b, rfl, hH, Cc, hcv, e, q⟩ := h
  obtain ⟨u1, u2, rfl, rx, rt⟩ := vals2 r
  cases rx
  have ec := hcv _ rt
  subst ec
  obtain ⟨⟨oe, vs, hget, hz, hv⟩, _⟩ := (show ObjOk X.prog X.w H s.heap a (errH a (.ref D) none) from I.hok a _ hH)
  have at_ : PySem.W.InstAt s.heap a oe D none := by
    obtain ⟨oc, od, oda, osl⟩ := oe
    obtain ⟨h1, h2⟩ := hz
    dsimp only at h1 h2 hv
    subst h1 h2 hv
    exact ⟨hget, rfl, rfl, trivial⟩
  exact PySem.W.kia_one (PySem.W.handS_kitx_exc Cc.hg Cc.hk Cc.hs Cc.hd Cc.ha Cc.hn Cc.ht Cc.hm) I.kIn at_ e (fun z => nomatch z) fun tk => ⟨.bl b, H, I.kept (t' := tk) fun _ _ z => z, rfl, q⟩
/-- f tells of each kind of ours whether it is the class -/
def pIsEx (f : Kx → Bool) : PV → Option PV
  | .exc c => some (.bl (f c))
  | _ => none
theorem s_isEx {K : PySem.W.Frag} {f : Kx → Bool} {c : V} {cv : Value} (hcv : ∀ u, RelV c u → u = cv) : ∀ (C : Kx → Addr), (∀ k, ExcC K (C k)) → (∀ k, PySem.W.kitOne K (.ref (C k)) cv = some (f k)) → ∀ (F H : Hp) (ρ : List Addr) (x : V) (u z : PV) (Q : VK), Le F H → Seen K C F ρ H x u → pIsEx f u = some z →
    (∀ F' H' q, Grow F H F' H' → Rep K C F' ρ q z → Q q H') → rIsEx K [x, c] H Q := by
  intro C hC hk F H ρ x u z Q hF hx e h
  cases u with
  | exc k =>
    cases e
    rcases hx with hx | ⟨_, _, hx⟩
    · cases hx with
      | exc q => exact ⟨_, C k, c, cv, f k, rfl, hF _ _ q, hC k, hcv, hk k, h F H _ (Grow.refl hF) (.bl _)⟩
    · exact hx.elim
  | _ => cases e
section
variable {X : Cx} {C : Kx → Addr} {E : WX} {pos p p2 : Pos} {a : Expr} {da : Plx} {t : Str} {f : Kx → Bool} {c : V} {cv : Value}
/-- isinstance(e, X) of a kept error; the class is named by t -/
theorem h_isEx (hC : ∀ k, ExcC X.K (C k)) (hk : ∀ k, PySem.W.kitOne X.K (.ref (C k)) cv = some (f k)) (hcv : ∀ u, RelV c u → u = cv) (hn : PE X (.Name t p2) (tC c)) (hg : Gl X "isinstance") (hm : X.mg "isinstance" = none) (ha : PE X a (rP X.K C E da))
    (he : starEach [a, .Name t p2] X.env = [(false, eval a X.env), (false, eval (.Name t p2) X.env)] := by rfl) (he2 : starEach [.Name t p2] X.env = [(false, eval (.Name t p2) X.env)] := by rfl) :
    PE X (.Call (.Name "isinstance" p) [a, .Name t p2] [] pos) (rE X.K C E (eP1 (pIsEx f) da)) := by
  refine (pe_callB call_isEx hg hm PyProof.Rows.boot_isinstance (pa_cons ha (pa_cons hn pa_nil he2) (by rw [he, he2])) (by decide) (by decide) (by rw [he, he2]) (by rw [he2] <;> rfl)).imp ?_
  rintro σ H Q ⟨w, env, S, s, h⟩
  unfold eP1 at h
  refine ⟨w, env, S, s, h.bind.mono fun pl S1 w1 H1 le1 s1 h1 x rx => ?_⟩
  split at h1
  · rename_i u e
    cases e2 : pIsEx f u with
    | none => rw [e2] at h1; exact h1.elim
    | some z =>
      rw [e2] at h1
      refine s_isEx hcv C hC hk w1.F H1 w1.ρ x u z Q s1.f (rx.seen s1 e) e2 fun F' H' q g rq => ?_
      obtain ⟨s2, le2⟩ := s1.grow g
      exact h1 _ H' le2 s2 q rq
  · exact h1.elim
end
end Hw

set_option maxRecDepth 100000
set_option maxHeartbeats 4000000
namespace Hw
open PySem PySem.Spec L2
open PyProof.Rows (envOfC)
/-! ### dicts with ints as keys: looking up -/
def dval (kvs : List (Int × PV)) (k : Int) : Option PV := match kvs with
  | [] => none
  | (j, x) :: r => if j = k then some x else dval r k
def dhas (kvs : List (Int × PV)) (k : Int) : Bool := kvs.any fun p => decide (p.1 = k)
def dput (kvs : List (Int × PV)) (k : Int) (v : PV) : List (Int × PV) := if dhas kvs k = true then kvs.map (fun p => if p.1 = k then (p.1, v) else p) else kvs ++ [(k, v)]
section
variable {K : PySem.W.Frag} {C : Kx → Addr} {F H : Hp} {ρ : List Addr}
theorem RepI.val (k : Int) : ∀ {kv : List (Key × V)} {kvs : List (Int × PV)}, RepI K C F ρ kv kvs → (valV kv (Sum.inl k) = none ∧ dval kvs k = none) ∨ ∃ v x, valV kv (Sum.inl k) = some v ∧ dval kvs k = some x ∧ Rep K C F ρ v x
  | _, _, .nil => .inl ⟨rfl, rfl⟩
  | _, _, @RepI.cons _ _ _ _ j v r x s hr hs => by
    by_cases e : j = k
    · subst e
      exact .inr ⟨v, x, valV_pos rfl, by simp [dval], hr⟩
    · have ih := RepI.val k hs
      rw [valV_neg (fun q => e (Sum.inl.inj q))]
      simp only [dval, if_neg e]
      exact ih
theorem RepI.len : ∀ {kv : List (Key × V)} {kvs : List (Int × PV)}, RepI K C F ρ kv kvs → kv.length = kvs.length
  | _, _, .nil => rfl
  | _, _, .cons _ s => by simp [RepI.len s]
theorem RepI.has (k : Int) : ∀ {kv : List (Key × V)} {kvs : List (Int × PV)}, RepI K C F ρ kv kvs → (kv.any fun p => decide (p.1 = Sum.inl k)) = dhas kvs k
  | _, _, .nil => rfl
  | _, _, @RepI.cons _ _ _ _ j v r x s hr hs => by
    have ih := RepI.has k hs
    unfold dhas at ih ⊢
    rw [List.any_cons, List.any_cons, ih]
    congr 1
    by_cases e : j = k
    · subst e; simp
    · simp [e]
theorem RepI.app : ∀ {kv kw : List (Key × V)} {kvs kws : List (Int × PV)}, RepI K C F ρ kv kvs → RepI K C F ρ kw kws → RepI K C F ρ (kv ++ kw) (kvs ++ kws)
  | _, _, _, _, .nil, s => s
  | _, _, _, _, .cons r t, s => .cons r (RepI.app t s)
theorem RepI.upd (k : Int) {v : V} {x : PV} (rx : Rep K C F ρ v x) : ∀ {kv : List (Key × V)} {kvs : List (Int × PV)}, RepI K C F ρ kv kvs → RepI K C F ρ (kv.map fun p => if p.1 = Sum.inl k then (p.1, v) else p) (kvs.map fun p => if p.1 = k then (p.1, x) else p)
  | _, _, .nil => .nil
  | _, _, @RepI.cons _ _ _ _ j u r y s hr hs => by
    have ih := RepI.upd k rx hs
    rw [List.map_cons, List.map_cons]
    by_cases e : j = k
    · subst e
      rw [if_pos rfl, if_pos rfl]
      exact .cons rx ih
    · rw [if_neg (show ¬ ((Sum.inl j : Key) = Sum.inl k) from fun q => e (Sum.inl.inj q)), if_neg e]
      exact .cons hr ih
theorem RepI.put (k : Int) {v : V} {x : PV} (rx : Rep K C F ρ v x) {kv : List (Key × V)} {kvs : List (Int × PV)} (r : RepI K C F ρ kv kvs) : RepI K C F ρ (putK kv (Sum.inl k) v) (dput kvs k x) := by
  unfold putK dput
  rw [r.has k]
  by_cases e : dhas kvs k = true
  · rw [if_pos e, if_pos e]; exact r.upd k rx
  · rw [if_neg e, if_neg e]; exact r.app (.cons rx .nil)
end
theorem _root_.L2.PE.orr {X : Cx} {e : Expr} {t t' : TE} (h : PE X e t) (h' : PE X e t') : PE X e (fun σ H Q => t σ H Q ∨ t' σ H Q) := ⟨fun pins s σ H Q I q => q.elim (h.run pins s σ H Q I) (h'.run pins s σ H Q I)⟩
/-- by place, or by key -/
def pIx2 (u v : PV) : Option PV := match u, v with
  | .dI kvs, .int k => dval kvs k
  | u, v => pIdx u v
section
variable {X : Cx} {C : Kx → Addr} {E : WX} {a b : Expr} {da db : Plx} {pos : Pos} {K : PySem.W.Frag} {F H : Hp} {ρ : List Addr}
theorem Seen.dI {x : V} {kvs : List (Int × PV)} (hf : Le F H) (h : Seen K C F ρ H x (.dI kvs)) : ∃ a kv, x = .ref a ∧ Rd H a (.dK kv) ∧ RepI K C F ρ kv kvs := by
  rcases h with h | ⟨a, e, h⟩
  · cases h with | dI q r => exact ⟨_, _, rfl, .inr ⟨_, hf _ _ q⟩, r⟩
  · obtain ⟨kv, h1, h2⟩ := h; exact ⟨a, kv, e, h1, h2⟩
theorem h_ix2 (hu : X.A.units + 1 < cLine) (hs : PlainIx b) (ha : PE X a (rP X.K C E da)) (hb : PE X b (rP X.K C E db)) : PE X (.Subscript a b pos) (rE X.K C E (eP2 pIx2 da db)) := by
  refine ((pe_ix o_ix ha hb hs).orr (pe_dget hu ha hb hs)).imp ?_
  rintro σ H Q ⟨w, env, S, s, h⟩
  have old : ∀ {P : PV → Sto → Wd → Hp → Prop}, Wp X.K C E w env σ (eP2 pIdx da db env S) P → (∀ q z S' w' H', Sim X.K C w' env S' σ H' → P z S' w' H' → Rep X.K C w'.F w'.ρ q z → Q q H') → rP X.K C E da σ H fun x H1 => rP X.K C E db σ H1 fun y H2 => rIxX X.K x y H2 Q := fun h hP => p2_rd s_ix s h hP
  cases h1 : da env S with
  | ex c S1 =>
    refine .inl (old (P := fun v _ w' H' => ∀ x, Rep X.K C w'.F w'.ρ x v → Q x H') ?_ fun q z S' w' H' s' p rq => p q rq)
    unfold eP2 at h ⊢
    rw [h1] at h ⊢
    exact h
  | bad => unfold eP2 at h; rw [h1] at h; exact h.elim
  | ok p S1 =>
    cases h2 : db env S1 with
    | ex c S2 =>
      refine .inl (old (P := fun v _ w' H' => ∀ x, Rep X.K C w'.F w'.ρ x v → Q x H') ?_ fun q z S' w' H' s' p rq => p q rq)
      unfold eP2 at h ⊢
      simp only [h1, h2, R.bind] at h ⊢
      exact h
    | bad => unfold eP2 at h; simp only [h1, h2, R.bind] at h; exact h.elim
    | ok q S2 =>
      by_cases hk : ∃ kvs k, res p env S2 = some (.dI kvs) ∧ res q env S2 = some (.int k)
      · obtain ⟨kvs, k, r1, r2⟩ := hk
        refine .inr ⟨w, env, S, s, ?_⟩
        rw [h1]
        intro w1 H1 le1 s1 x rx
        refine ⟨w1, env, S1, s1, ?_⟩
        rw [h2]
        intro w2 H2 le2 s2 y ry
        unfold eP2 at h
        simp only [h1, h2, R.bind, r1, r2, pIx2] at h
        obtain ⟨a, kv, rfl, hr, ri⟩ := Seen.dI s2.f ((rx.up le2).seen s2 r1)
        have hy := ry.seen s2 r2
        cases hy.int
        rcases ri.val k with ⟨_, n2⟩ | ⟨v, z, g1, g2, g3⟩
        · rw [n2] at h; exact h.elim
        · rw [g2] at h
          exact ⟨a, v, rfl, .inl ⟨kv, .inl k, hr, rfl, g1.symm⟩, h w2 H2 (le1.trans le2) s2 v g3⟩
      · refine .inl (old (P := fun v _ w' H' => ∀ x, Rep X.K C w'.F w'.ρ x v → Q x H') ?_ fun q z S' w' H' s' p rq => p q rq)
        unfold eP2 at h ⊢
        simp only [h1, h2, R.bind] at h ⊢
        cases r1 : res p env S2 with
        | none => rw [r1] at h; exact h
        | some u =>
          rw [r1] at h
          dsimp only at h ⊢
          cases r2 : res q env S2 with
          | none => rw [r2] at h; exact h
          | some v =>
            rw [r2] at h
            dsimp only at h ⊢
            have : pIx2 u v = pIdx u v := by
              cases u with
              | dI kvs =>
                cases v with
                | int k => exact absurd ⟨kvs, k, r1, r2⟩ hk
                | _ => rfl
              | _ => rfl
            rw [this] at h
            exact h
end
end Hw

set_option maxRecDepth 100000
set_option maxHeartbeats 4000000
namespace Hw
open PySem PySem.Spec L2
open PyProof.Rows (envOfC)
/-- o.get(k, d) -/
def eGet2 (o : Plx) (k d : Ex) : Ex := fun env S => (o env S).bind fun p S => match res p env S with
  | some (.dI _) => (k env S).bind fun kv S => (d env S).bind fun dv S => match res p env S, kv with
    | some (.dI kvs), .int i => .ok ((dval kvs i).getD dv) S
    | _, _ => .bad
  | _ => .bad
section
variable {X : Cx} {C : Kx → Addr} {E : WX} {o e f : Expr} {do_ : Plx} {dk dd : Ex} {apos cpos : Pos}
theorem h_get2 (hu : X.A.units + 1 < cLine) (ho : PE X o (rP X.K C E do_)) (he : PE X e (rE X.K C E dk)) (hf : PE X f (rE X.K C E dd)) (m : M2 X o "get" apos e f cpos) : PE X (.Call (.Attribute o "get" apos) [e, f] [] cpos) (rE X.K C E (eGet2 do_ dk dd)) := by
  refine (pe_dget2 hu ho he hf m).imp ?_
  rintro σ H Q ⟨w, env, S, s, h⟩
  unfold eGet2 at h
  refine ⟨w, env, S, s, h.bind.mono fun p S1 w1 H1 le1 s1 h1 x rx => ?_⟩
  split at h1
  · rename_i kvs e1
    obtain ⟨a, kv, rfl, hr, ri⟩ := Seen.dI s1.f (rx.seen s1 e1)
    refine ⟨a, rfl, .inl ⟨kv, hr⟩, w1, env, S1, s1, h1.bind.mono fun u S2 w2 H2 le2 s2 h2 y ry => ⟨w2, env, S2, s2, h2.bind.mono fun v S3 w3 H3 le3 s3 h3 z rz => ?_⟩⟩
    split at h3
    · rename_i kvs2 i e2
      obtain ⟨a2, kv2, ea, hr2, ri2⟩ := Seen.dI s3.f (((rx.up le2).up le3).seen s3 e2)
      cases ea
      cases ry
      refine ⟨valV kv2 (.inl i), .inl ⟨kv2, .inl i, hr2, rfl, rfl⟩, ?_⟩
      rcases ri2.val i with ⟨n1, n2⟩ | ⟨v2, z2, g1, g2, g3⟩
      · rw [n1]
        rw [n2] at h3
        exact h3 w3 H3 (Wd.le.refl _) s3 z rz
      · rw [g1]
        rw [g2] at h3
        exact h3 w3 H3 (Wd.le.refl _) s3 v2 g3
    · exact h3.elim
  · exact h1.elim
end
/-- k in a sequence, in an int dict -/
def pIn2 (u v : PV) : Option PV := match u, v with
  | .int k, .dI kvs => some (.bl (dval kvs k).isSome)
  | u, v => pInX u v
def pNotIn2 (u v : PV) : Option PV := match u, v with
  | .int k, .dI kvs => some (.bl (!(dval kvs k).isSome))
  | u, v => pNotInX u v
section
variable {X : Cx} {C : Kx → Addr} {E : WX} {a b : Expr} {da db : Plx} {pos : Pos} {K : PySem.W.Frag}
/-- either the old operator's reading, or a dict is asked -/
theorem in_rd {g fo : PV → PV → Option PV} {r : R2} (hf : Op2 K fo r) {neg : Bool} (hg : ∀ u v, (∃ k kvs, u = .int k ∧ v = .dI kvs ∧ g u v = some (.bl (if neg then !(dval kvs k).isSome else (dval kvs k).isSome))) ∨ g u v = fo u v) {σ : L2.St} {H : Hp} {Q : VK} {w : Wd} {env : En} {S : Sto} {P : PV → Sto → Wd → Hp → Prop} (s : Sim K C w env S σ H) (h : Wp K C E w env σ (eP2 g da db env S) P)
    (hP : ∀ q z S' w' H', Sim K C w' env S' σ H' → P z S' w' H' → Rep K C w'.F w'.ρ q z → Q q H') :
    (rP K C E da σ H fun x H1 => rP K C E db σ H1 fun y H2 => r x y H2 Q) ∨ (rP K C E da σ H fun y H1 => rP K C E db σ H1 fun x H2 => ∃ p o, x = .ref p ∧ DGet H2 p y o ∧ Q (.bl (if neg then !o.isSome else o.isSome)) H2) := by
  cases h1 : da env S with
  | bad => unfold eP2 at h; rw [h1] at h; exact h.elim
  | ex c S1 =>
    refine .inl (p2_rd (P := P) hf s ?_ hP)
    unfold eP2 at h ⊢
    rw [h1] at h ⊢
    exact h
  | ok p S1 =>
    cases h2 : db env S1 with
    | bad => unfold eP2 at h; simp only [h1, h2, R.bind] at h; exact h.elim
    | ex c S2 =>
      refine .inl (p2_rd (P := P) hf s ?_ hP)
      unfold eP2 at h ⊢
      simp only [h1, h2, R.bind] at h ⊢
      exact h
    | ok q S2 =>
      by_cases hk : ∃ k kvs, res p env S2 = some (.int k) ∧ res q env S2 = some (.dI kvs)
      · obtain ⟨k, kvs, r1, r2⟩ := hk
        rcases hg (.int k) (.dI kvs) with ⟨k', kvs', e1, e2, e3⟩ | e3
        · cases e1
          cases e2
          refine .inr ⟨w, env, S, s, ?_⟩
          rw [h1]
          intro w1 H1 le1 s1 x rx
          refine ⟨w1, env, S1, s1, ?_⟩
          rw [h2]
          intro w2 H2 le2 s2 y ry
          unfold eP2 at h
          simp only [h1, h2, R.bind, r1, r2, e3] at h
          obtain ⟨a, kv, rfl, hr, ri⟩ := Seen.dI s2.f (ry.seen s2 r2)
          have hx := (rx.up le2).seen s2 r1
          cases hx.int
          refine ⟨a, valV kv (.inl k), rfl, .inl ⟨kv, .inl k, hr, rfl, rfl⟩, ?_⟩
          have e4 : (valV kv (Sum.inl k)).isSome = (dval kvs k).isSome := by
            rcases ri.val k with ⟨n1, n2⟩ | ⟨v, z, g1, g2, _⟩
            · rw [n1, n2]
              rfl
            · rw [g1, g2]
              rfl
          rw [e4]
          exact hP _ _ _ w2 H2 s2 (h w2 H2 (le1.trans le2) s2) (.bl _)
        · refine .inl (p2_rd (P := P) hf s ?_ hP)
          unfold eP2 at h ⊢
          simp only [h1, h2, R.bind, r1, r2, e3] at h ⊢
          exact h
      · refine .inl (p2_rd (P := P) hf s ?_ hP)
        unfold eP2 at h ⊢
        simp only [h1, h2, R.bind] at h ⊢
        cases r1 : res p env S2 with
        | none => rw [r1] at h; exact h
        | some u =>
          rw [r1] at h
          dsimp only at h ⊢
          cases r2 : res q env S2 with
          | none => rw [r2] at h; exact h
          | some v =>
            rw [r2] at h
            dsimp only at h ⊢
            rcases hg u v with ⟨k', kvs', e1, e2, e3⟩ | e3
            · exact absurd ⟨k', kvs', by rw [r1, e1], by rw [r2, e2]⟩ hk
            · rw [e3] at h
              exact h
theorem in2_g (u v : PV) : (∃ k kvs, u = .int k ∧ v = .dI kvs ∧ pIn2 u v = some (.bl (if false = true then !(dval kvs k).isSome else (dval kvs k).isSome))) ∨ pIn2 u v = pInX u v := by
  cases u <;> cases v <;> first | exact .inl ⟨_, _, rfl, rfl, rfl⟩ | exact .inr rfl
theorem notin2_g (u v : PV) : (∃ k kvs, u = .int k ∧ v = .dI kvs ∧ pNotIn2 u v = some (.bl (if true = true then !(dval kvs k).isSome else (dval kvs k).isSome))) ∨ pNotIn2 u v = pNotInX u v := by
  cases u <;> cases v <;> first | exact .inl ⟨_, _, rfl, rfl, rfl⟩ | exact .inr rfl
theorem _root_.L2.PT.orr {X : Cx} {e : Expr} {t t' : TT} (h : PT X e t) (h' : PT X e t') : PT X e (fun σ H Q => t σ H Q ∨ t' σ H Q) := ⟨fun pins s σ H Q I q => q.elim (h.run pins s σ H Q I) (h'.run pins s σ H Q I)⟩
theorem h_in2 (hu : X.A.units + 65 < cLine) (hm : behindInMarks .In b = false) (ha : PE X a (rP X.K C E da)) (hb : PE X b (rP X.K C E db)) : PE X (.Compare a [.In] [b] pos) (rE X.K C E (eP2 pIn2 da db)) :=
  ((pe_cmpR (o_in hu) ha hb hm).orr (pe_cmp (pc_din (by omega) ha hb) hm)).imp fun σ H Q ⟨w, env, S, s, h⟩ => in_rd (neg := false) s_in in2_g s h fun q z S' w' H' s' p rq => p q rq
theorem h_nin2 (hu : X.A.units + 65 < cLine) (hm : behindInMarks .NotIn b = false) (ha : PE X a (rP X.K C E da)) (hb : PE X b (rP X.K C E db)) : PE X (.Compare a [.NotIn] [b] pos) (rE X.K C E (eP2 pNotIn2 da db)) :=
  ((pe_cmpR (o_notin hu) ha hb hm).orr (pe_cmp (pc_dnotin (by omega) ha hb) hm)).imp fun σ H Q ⟨w, env, S, s, h⟩ => in_rd (neg := true) s_notin notin2_g s h fun q z S' w' H' s' p rq => p q rq
theorem ht_in2 (hu : X.A.units + 65 < cLine) (hm : behindInMarks .In b = false) (ha : PE X a (rP X.K C E da)) (hb : PE X b (rP X.K C E db)) : PT X (.Compare a [.In] [b] pos) (rT X.K C E (eP2 pIn2 da db)) :=
  ((pt_cmpR (o_in hu) ha hb hm).orr (pt_cmp (pc_din (by omega) ha hb) hm)).imp fun σ H Q ⟨w, env, S, s, h⟩ => in_rd (Q := fun x H' => ∃ d, x = .bl d ∧ Q d H') (neg := false) s_in in2_g s h fun q z S' w' H' s' p rq => by
    obtain ⟨bb, e, p⟩ := p
    subst e
    exact ⟨bb, rep_bl rq, p⟩
theorem ht_nin2 (hu : X.A.units + 65 < cLine) (hm : behindInMarks .NotIn b = false) (ha : PE X a (rP X.K C E da)) (hb : PE X b (rP X.K C E db)) : PT X (.Compare a [.NotIn] [b] pos) (rT X.K C E (eP2 pNotIn2 da db)) :=
  ((pt_cmpR (o_notin hu) ha hb hm).orr (pt_cmp (pc_dnotin (by omega) ha hb) hm)).imp fun σ H Q ⟨w, env, S, s, h⟩ => in_rd (Q := fun x H' => ∃ d, x = .bl d ∧ Q d H') (neg := true) s_notin notin2_g s h fun q z S' w' H' s' p rq => by
    obtain ⟨bb, e, p⟩ := p
    subst e
    exact ⟨bb, rep_bl rq, p⟩
end
end Hw

set_option maxRecDepth 100000
set_option maxHeartbeats 4000000
namespace Hw
open PySem PySem.Spec L2
open PyProof.Rows (envOfC)
def dsetd (kvs : List (Int × PV)) (k : Int) (v : PV) : List (Int × PV) := match dval kvs k with
  | some _ => kvs
  | none => dput kvs k v
/-- x.setdefault(k, d), x our own -/
def sSetd (i : Nat) (k d : Ex) : Sm := fun env S => match env[i]? with
  | some (.own (.dI kvs)) => match k env S with
    | .ok (.int j) S => match d env S with
      | .ok dv S => if kvs.length ≤ 1000000 then .nx (env.set i (.own (.dI (dsetd kvs j dv)))) S else .bad
      | .ex c S => .ex c env S
      | .bad => .bad
    | .ok _ _ => .bad
    | .ex c S => .ex c env S
    | .bad => .bad
  | _ => .bad
section
variable {X : Cx} {C : Kx → Addr} {E : WX} {e f : Expr} {dk dd : Ex} {apos cpos pos p1 : Pos} {x : Str} {i : Nat}
theorem h_setd (hN : X.N[i]? = some x) (hv : Vis X.env.scope x) (he : PE X e (rE X.K C E dk)) (hf : PE X f (rE X.K C E dd)) (m : M2 X (.Name x p1) "setdefault" apos e f cpos) (hd : (x == ("__debug__" : Str)) = false := by decide) (hcd : (x == ("__classdict__" : Str)) = false := by decide)
    (hsw : swapsWith (.Call (.Attribute (.Name x p1) "setdefault" apos) [e, f] [] cpos) none pos.line X.env = pure false := by rfl) :
    PS X (.Expr (.Call (.Attribute (.Name x p1) "setdefault" apos) [e, f] [] cpos) pos) (rS X.K C E (sSetd i dk dd)) := by
  refine (ps_expr (pe_dsetd (pe_var (i := i) hN hv hd hcd) he hf m) hsw).imp ?_
  rintro D σ H ⟨w, env, S, s, h⟩
  unfold sSetd at h
  split at h
  · rename_i kvs e1
    obtain ⟨q, z1, fr, kv, z2, zr⟩ := own_at s e1
    refine ⟨.ref q, z1, q, rfl, .inl ⟨kv, .inl z2⟩, w, env, S, s, ?_⟩
    cases hk : dk env S with
    | ex c S1 => rw [hk] at h; exact fun w1 H1 le s1 => h w1 H1 σ le s1
    | bad => rw [hk] at h; exact h.elim
    | ok v S1 =>
      rw [hk] at h
      intro w1 H1 le s1 y ry
      cases v with
      | int j =>
        cases ry
        dsimp only at h
        refine ⟨w1, env, S1, s1, ?_⟩
        cases hd2 : dd env S1 with
        | ex c S2 => rw [hd2] at h; exact fun w2 H2 le2 s2 => h w2 H2 σ (le.trans le2) s2
        | bad => rw [hd2] at h; exact h.elim
        | ok dv S2 =>
          rw [hd2] at h
          dsimp only at h
          intro w2 H2 le2 s2 z rz
          split at h
          · rename_i hl
            obtain ⟨kv2, g1, g2⟩ := own_same s2 e1 z1
            refine ⟨kv2, .inl j, g1, rfl, by rw [g2.len]; exact Nat.lt_of_le_of_lt hl (by decide), fun v hv2 => ?_, fun hn => ?_⟩
            · have e3 : dsetd kvs j dv = kvs := by
                rcases g2.val j with ⟨n1, _⟩ | ⟨_, _, _, n2, _⟩
                · rw [n1] at hv2; cases hv2
                · unfold dsetd; rw [n2]
              rw [e3] at h
              have e4 : env.set i (.own (.dI kvs)) = env := by
                have hlt := (List.getElem?_eq_some_iff.mp e1).1
                refine List.ext_getElem? fun k => ?_
                by_cases hki : i = k
                · subst hki; rw [List.getElem?_set_self hlt, e1]
                · rw [List.getElem?_set_ne hki]
              rw [e4] at h
              exact h w2 H2 σ (le.trans le2) s2
            · have e3 : dsetd kvs j dv = dput kvs j dv := by
                rcases g2.val j with ⟨_, n2⟩ | ⟨_, _, n1, _⟩
                · unfold dsetd; rw [n2]
                · rw [n1] at hn; cases hn
              rw [e3] at h
              exact h w2 _ σ (le.trans le2) (s2.ownU e1 z1 ⟨_, upd_same, g2.put j rz⟩)
          · exact h.elim
      | _ => exact h.elim
  · exact h.elim
/-- {} -/
def eDI0 : Ex := fun _ S => .ok (.dI []) S
/-- x[k] = v, x our own int dict -/
def sDput (i : Nat) (k d : Ex) : Sm := fun env S => match d env S with
  | .ok v S => match env[i]? with
    | some (.own (.dI kvs)) => match k env S with
      | .ok (.int j) S => if kvs.length ≤ 1000000 then .nx (env.set i (.own (.dI (dput kvs j v)))) S else .bad
      | .ok _ _ => .bad
      | .ex c S => .ex c env S
      | .bad => .bad
    | _ => .bad
  | .ex c S => .ex c env S
  | .bad => .bad
theorem h_dput {p2 : Pos} (hu : X.A.units + 1 < cLine) (hN : X.N[i]? = some x) (hv : Vis X.env.scope x) (he : PE X f (rE X.K C E dd)) (hk : PE X e (rE X.K C E dk)) (hsw : swapsWith f (some (.Subscript (.Name x p1) e p2)) pos.line X.env = pure false) (hd : (x == ("__debug__" : Str)) = false := by decide) (hcd : (x == ("__classdict__" : Str)) = false := by decide) :
    PS X (.Assign [.Subscript (.Name x p1) e p2] f pos) (rS X.K C E (sDput i dk dd)) := by
  refine (ps_dput hu (pe_var (i := i) hN hv hd hcd) hk he hsw).imp ?_
  rintro D σ H ⟨w, env, S, s, h⟩
  unfold sDput at h
  refine ⟨w, env, S, s, ?_⟩
  cases hd2 : dd env S with
  | ex c S1 => rw [hd2] at h; exact fun w1 H1 le s1 => h w1 H1 σ le s1
  | bad => rw [hd2] at h; exact h.elim
  | ok v S1 =>
    rw [hd2] at h
    intro w1 H1 le s1 y ry
    dsimp only at h
    split at h
    · rename_i kvs e1
      obtain ⟨q, z1, fr, _⟩ := own_at s1 e1
      refine ⟨.ref q, z1, w1, env, S1, s1, ?_⟩
      cases hk2 : dk env S1 with
      | ex c S2 => rw [hk2] at h; exact fun w2 H2 le2 s2 => h w2 H2 σ (le.trans le2) s2
      | bad => rw [hk2] at h; exact h.elim
      | ok kv S2 =>
        rw [hk2] at h
        intro w2 H2 le2 s2 z rz
        cases kv with
        | int j =>
          cases rz
          dsimp only at h
          split at h
          · rename_i hl
            obtain ⟨kv2, g1, g2⟩ := own_same s2 e1 z1
            exact ⟨q, _, rfl, .inl ⟨kv2, .inl j, g1, rfl, by rw [g2.len]; exact Nat.lt_of_le_of_lt hl (by decide), rfl⟩, h w2 _ σ (le.trans le2) (s2.ownU e1 z1 ⟨_, upd_same, g2.put j (RepW.up le2 ry)⟩)⟩
          · exact h.elim
        | _ => exact h.elim
    · exact h.elim
end
end Hw

set_option maxRecDepth 100000
set_option maxHeartbeats 4000000
namespace Hw
open PySem PySem.Spec L2
open PyProof.Rows (envOfC)
/-! ### what is made is frozen -/
theorem pe_fzE {X : Cx} {e : Expr} {t : TE} (h : PE X e t) : PE X e (fun σ H Q => t σ H (fun v H' => Q v H' ∨ ∃ d u, H' d = some u ∧ Mut (some u) ∧ ∀ od, Q v (upd H' d (.frz od u)))) := by
  refine ⟨fun pins s σ H Q I hw => thn (h.run pins s σ H _ I hw) fun v s1 ⟨x, H1, I1, r, q⟩ => ?_⟩
  rcases q with q | ⟨d, u, hd, mu, q⟩
  · exact ⟨x, H1, I1, r, q⟩
  · obtain ⟨od, I2⟩ := I1.lock hd mu
    exact ⟨x, _, I2, r, q od⟩
theorem pss_fz {X : Cx} {sts : List Stmt} {t : TS} (h : PSs X sts t) : PSs X sts (fun D σ H => t D σ H ∨ ∃ d u, H d = some u ∧ Mut (some u) ∧ ∀ od, t D σ (upd H d (.frz od u))) := by
  refine ⟨fun pins s σ H D I hw => ?_⟩
  rcases hw with q | ⟨d, u, hd, mu, q⟩
  · exact h.run pins s σ H D I q
  · obtain ⟨od, I2⟩ := I.lock hd mu
    exact h.run pins s σ _ D I2 (q od)
section
variable {X : Cx} {C : Kx → Addr} {E : WX} {e : Expr} {pos : Pos} {K : PySem.W.Frag} {w w' : Wd} {env env' : En} {S S' : Sto} {σ σ' : L2.St} {H H' : Hp} {p : Addr} {o : HO}
theorem Sim.toF (s : Sim K C w env S σ H) (fr : Fr1 w p) (ns : NotMine env σ p) (e : H p = some o) : w.le { w with F := upd w.F p o } ∧ Sim K C { w with F := upd w.F p o } env S σ H := by
  have ff : Le w.F (upd w.F p o) := Le.put fr.1
  have le : w.le { w with F := upd w.F p o } := Wd.le.ff ff
  have keep : ∀ a, a ≠ p → w.F a = none → upd w.F p o a = none := fun a n q => by rw [upd_ne n]; exact q
  refine ⟨le, ⟨fun a u q => ?_, s.b, fun a u q => ?_, s.lb, s.le, fun i x q => ?_, s.od, s.ln, s.nd, fun n c a e1 e2 => ?_⟩⟩
  · by_cases h : a = p
    · subst h
      have q : upd w.F a o a = some u := q
      rw [upd_same] at q; rw [← q]; exact e
    · have q : upd w.F p o a = some u := q
      rw [upd_ne h] at q; exact s.f _ _ q
  · rcases s.fb a u q with h | h
    · exact .inl (keep a (fun h => by subst h; rw [fr.b] at q; cases q) h)
    · exact .inr h
  · have z := s.sl i x q
    cases x with
    | un => trivial
    | v y => obtain ⟨u, h1, h2⟩ := z; exact ⟨u, h1, RepW.up le h2⟩
    | own y =>
      obtain ⟨a, h1, ⟨f1, f2, f3⟩, h2⟩ := z
      exact ⟨a, h1, ⟨keep a (fun h => ns i _ q rfl (by rw [← h]; exact h1)) f1, f2, f3⟩, h2.up le fun _ e => e⟩
    | lk y =>
      obtain ⟨a, h0, h1, h2⟩ := z
      exact ⟨a, h0, h1, h2.up le fun _ e => e⟩
  · obtain ⟨f1, f2, h2⟩ := s.cl n c a e1 e2
    exact ⟨keep a (fun h => fr.r (by rw [← h]; exact List.mem_of_getElem? e2)) f1, f2, h2.up le fun _ e => e⟩
/-- what our object is, once frozen -/
theorem fz_any (s : Sim K C w env S σ H) (fr : Fr1 w p) (ns : NotMine env σ p) {v : PV} (ob : ObjR K C w H p v) :
    (∃ w', w.le w' ∧ Sim K C w' env S σ H ∧ Rep K C w'.F w'.ρ (.ref p) v) ∨ ∃ u, H p = some u ∧ Mut (some u) ∧ ∀ od, ∃ w', w.le w' ∧ Sim K C w' env S σ (upd H p (.frz od u)) ∧ Rep K C w'.F w'.ρ (.ref p) v := by
  cases v with
  | lst xs =>
    obtain ⟨w', h⟩ := fz_l s fr ns ob
    exact .inl ⟨w', h⟩
  | dI kvs =>
    obtain ⟨kv, e, r⟩ := ob
    refine .inr ⟨_, e, trivial, fun od => ?_⟩
    obtain ⟨le, s2⟩ := (s.free fr ns (.frz od (.dK kv))).toF fr ns upd_same
    exact ⟨_, le, s2, .dI (o := od) upd_same (RepI.le le.f (fun _ _ e => e) r)⟩
  | dT kvs =>
    obtain ⟨kv, e, r⟩ := ob
    refine .inr ⟨_, e, trivial, fun od => ?_⟩
    obtain ⟨le, s2⟩ := (s.free fr ns (.frz od (.dT kv))).toF fr ns upd_same
    exact ⟨_, le, s2, .dT (o := od) upd_same (RepT.le le.f (fun _ _ e => e) r)⟩
  | _ => exact ob.elim
/-- a new object as a value -/
theorem h_fzN {d : Ex} (h : PE X e (rN X.K C E d)) : PE X e (rE X.K C E d) := by
  refine (pe_fzE h).imp ?_
  rintro σ H Q ⟨w, env, S, s, h⟩
  refine ⟨w, env, S, s, ?_⟩
  cases hd : d env S with
  | ok v S' =>
    rw [hd] at h
    intro w1 H1 le1 s1 p fr ns o
    rcases fz_any s1 fr ns o with ⟨w2, le2, s2, r2⟩ | ⟨u, e, mu, q⟩
    · exact .inl (h w2 H1 (le1.trans le2) s2 _ r2)
    · refine .inr ⟨p, u, e, mu, fun od => ?_⟩
      obtain ⟨w2, le2, s2, r2⟩ := q od
      exact h w2 _ (le1.trans le2) s2 _ r2
  | ex c S' => rw [hd] at h; exact h
  | bad => rw [hd] at h; exact h
/-- an own slot becomes a value -/
def sFzD (i : Nat) : Sm := fun env S => match env[i]? with
  | some (.own x) => .nx (env.set i (.v x)) S
  | some (.v _) => .nx env S
  | _ => .bad
theorem Sim.unown (s : Sim K C w env S σ H) {i : Nat} {x : PV} (e : env[i]? = some (.own x)) : ∃ q, σ[i]? = some (some (.ref q)) ∧ Fr1 w q ∧ ObjR K C w H q x ∧ Sim K C w (env.set i .un) S σ H ∧ NotMine (env.set i .un) σ q := by
  obtain ⟨q, h1, fr, ob⟩ := own_at s e
  have hi := (List.getElem?_eq_some_iff.mp e).1
  have old : ∀ (j : Nat) (y : SV), (env.set i SV.un)[j]? = some y → (j = i ∧ y = .un) ∨ (j ≠ i ∧ env[j]? = some y) := fun j y z => by
    by_cases hj : j = i
    · subst hj; rw [List.getElem?_set_self hi] at z; cases z; exact .inl ⟨rfl, rfl⟩
    · rw [List.getElem?_set_ne (Ne.symm hj)] at z; exact .inr ⟨hj, z⟩
  refine ⟨q, h1, fr, ob, ⟨s.f, s.b, s.fb, s.lb, by simpa using s.le, fun j y z => ?_, fun j k y z a e1 e2 m1 m2 => ?_, s.ln, s.nd, s.cl⟩, fun j y z m k => ?_⟩
  · rcases old j y z with ⟨_, rfl⟩ | ⟨_, z⟩
    · trivial
    · exact s.sl j y z
  · rcases old j y e1 with ⟨_, rfl⟩ | ⟨_, e1⟩
    · cases m1
    · rcases old k z e2 with ⟨_, rfl⟩ | ⟨_, e2⟩
      · cases m2
      · exact s.od j k y z a e1 e2 m1 m2
  · rcases old j y z with ⟨_, rfl⟩ | ⟨hj, z⟩
    · cases m
    · exact hj (s.od j i y _ q z e m rfl k h1)
theorem set_same {l : L2.St} {i : Nat} {x : Option V} (h : l[i]? = some x) : l.set i x = l := by
  refine List.ext_getElem? fun k => ?_
  by_cases hk : i = k
  · subst hk; rw [List.getElem?_set_self (List.getElem?_eq_some_iff.mp h).1, h]
  · rw [List.getElem?_set_ne hk]
theorem setV_un {i : Nat} {x : SV} (hi : i < env.length) : setV i x (env.set i .un) = some (env.set i x) := by
  unfold setV
  rw [List.getElem?_set_self hi]
  simp
theorem h_fzD (i : Nat) {sts : List Stmt} {sa : Sm} (h : PSs X sts (rS X.K C E sa)) : PSs X sts (rS X.K C E (sSeq (sFzD i) sa)) := by
  refine (pss_fz h).imp ?_
  rintro D σ H ⟨w, env, S, s, h⟩
  unfold sSeq sFzD at h
  cases q : env[i]? with
  | none => rw [q] at h; exact (show False from h).elim
  | some y =>
    rw [q] at h
    cases y with
    | un => exact (show False from h).elim
    | lk x => exact (show False from h).elim
    | v x => exact .inl ⟨w, env, S, s, h⟩
    | own x =>
      obtain ⟨p, h1, fr, ob, s1, ns⟩ := s.unown q
      have hi := (List.getElem?_eq_some_iff.mp q).1
      have fin : ∀ {w2 : Wd} {H2 : Hp}, w.le w2 → Sim X.K C w2 (env.set i .un) S σ H2 → Rep X.K C w2.F w2.ρ (.ref p) x → rS X.K C E sa D σ H2 := fun {w2 H2} le2 s2 r2 => by
        have s3 := s2.putV (setV_un hi) r2
        rw [set_same h1] at s3
        exact ⟨w2, _, S, s3, SpR.up h le2⟩
      rcases fz_any s1 fr ns ob with ⟨w2, le2, s2, r2⟩ | ⟨u, e, mu, z⟩
      · exact .inl (fin le2 s2 r2)
      · refine .inr ⟨p, u, e, mu, fun od => ?_⟩
        obtain ⟨w2, le2, s2, r2⟩ := z od
        exact fin le2 s2 r2
/-! ### an own dict is walked -/
def isDk : PV → Bool
  | .dI _ => true
  | .dT _ => true
  | _ => false
def sLk (i : Nat) (b : Sm) : Sm := fun env S => match env[i]? with
  | some (.own x) => if isDk x then (match b (env.set i (.lk x)) S with
    | .nx e S => (match e[i]? with
      | some (.lk y) => .nx (e.set i (.own y)) S
      | _ => .bad)
    | .bk e S => (match e[i]? with
      | some (.lk y) => .bk (e.set i (.own y)) S
      | _ => .bad)
    | .ct e S => (match e[i]? with
      | some (.lk y) => .ct (e.set i (.own y)) S
      | _ => .bad)
    | .ex c e S => .ex c (e.set i .un) S
    | r => r) else .bad
  | _ => .bad
def lockW (w : Wd) (i : Nat) (a : Addr) (u : HO) : Wd := { F := w.F, B := upd w.B a u, ρ := w.ρ, L := fun j => if j = i then some a else w.L j }
theorem Sim.lock (s : Sim K C w env S σ H) {i : Nat} {x : PV} (e : env[i]? = some (.own x)) (hx : isDk x = true) : ∃ a u, H a = some u ∧ Mut (some u) ∧ w.B a = none ∧ σ[i]? = some (some (.ref a)) ∧ (∀ t, ObjR K C w (upd (fun _ => none) a u) a t ↔ ObjR K C w H a t) ∧
    ∀ od, Sim K C (lockW w i a (.frz od u)) (env.set i (.lk x)) S σ (upd H a (.frz od u)) := by
  obtain ⟨a, h1, fr, ob, s1, ns⟩ := s.unown e
  have hi := (List.getElem?_eq_some_iff.mp e).1
  have main : ∀ (u : HO), H a = some u → (∀ od, LkR K C w (upd w.B a (.frz od u)) a x) → ∀ od, Sim K C (lockW w i a (.frz od u)) (env.set i (.lk x)) S σ (upd H a (.frz od u)) := fun u hu hl od => by
    have s2 := s1.free fr ns (.frz od u)
    have hb : ∀ b, b ≠ a → (lockW w i a (.frz od u)).B b = w.B b := fun b hb => upd_ne hb
    have hba : (lockW w i a (.frz od u)).B a = some (.frz od u) := upd_same
    have ne : ∀ {b : Addr} {o : HO}, w.B b = some o → b ≠ a := fun {b o} z q => by rw [q, fr.b] at z; cases z
    refine ⟨s2.f, fun b o z => ?_, fun b o z => ?_, fun j b z => ?_, by simpa using s.le, fun j y z => ?_, fun j k y z b e1 e2 m1 m2 => ?_, s.ln, s.nd, fun n c b e1 e2 => ?_⟩
    · by_cases q : b = a
      · subst q; rw [hba] at z; rw [upd_same]; exact z
      · rw [hb b q] at z; exact s2.b b o z
    · by_cases q : b = a
      · subst q; exact .inl fr.f
      · rw [hb b q] at z; exact s.fb b o z
    · by_cases q : b = a
      · subst q; rw [hba]; simp
      · rw [hb b q]
        have z : (if j = i then some a else w.L j) = some b := z
        by_cases hj : j = i
        · rw [if_pos hj] at z; cases z; exact absurd rfl q
        · rw [if_neg hj] at z; exact s.lb j b z
    · by_cases hj : j = i
      · subst hj
        rw [List.getElem?_set_self hi] at z
        cases z
        exact ⟨a, if_pos rfl, h1, (hl od).same rfl rfl rfl⟩
      · rw [List.getElem?_set_ne (Ne.symm hj)] at z
        have z2 := s2.sl j y (by rw [List.getElem?_set_ne (Ne.symm hj)]; exact z)
        cases y with
        | un => trivial
        | v t => exact z2
        | own t =>
          obtain ⟨b, g1, g2, g3⟩ := z2
          have hba' : b ≠ a := fun q => ns j _ (by rw [List.getElem?_set_ne (Ne.symm hj)]; exact z) rfl (by rw [← q]; exact g1)
          exact ⟨b, g1, ⟨g2.f, by rw [hb b hba']; exact g2.b, g2.r⟩, g3.same rfl rfl⟩
        | lk t =>
          obtain ⟨b, g0, g1, g2⟩ := z2
          obtain ⟨o, ho⟩ := g2.there
          exact ⟨b, by show (if j = i then some a else w.L j) = some b; rw [if_neg hj]; exact g0, g1, g2.same rfl rfl (hb b (ne ho))⟩
    · have f1 : ∀ (j : Nat) (y : SV), (env.set i (SV.lk x))[j]? = some y → y.mine = true → env[j]? = some y := fun j y z m => by
        by_cases hj : j = i
        · subst hj; rw [List.getElem?_set_self hi] at z; cases z; cases m
        · rw [List.getElem?_set_ne (Ne.symm hj)] at z; exact z
      exact s.od j k y z b (f1 j y e1 m1) (f1 k z e2 m2) m1 m2
    · obtain ⟨g1, g2, g3⟩ := s2.cl n c b e1 e2
      have hba' : b ≠ a := fun q => fr.r (by rw [← q]; exact List.mem_of_getElem? e2)
      exact ⟨g1, by rw [hb b hba']; exact g2, g3.same rfl rfl⟩
  cases x with
  | dI kvs =>
    obtain ⟨kv, e1, r⟩ := ob
    refine ⟨a, _, e1, trivial, fr.b, h1, fun t => ?_, main _ e1 fun od => ⟨od, kv, upd_same, r⟩⟩
    cases t <;> simp [ObjR, upd_same, e1]
  | dT kvs =>
    obtain ⟨kv, e1, r⟩ := ob
    refine ⟨a, _, e1, trivial, fr.b, h1, fun t => ?_, main _ e1 fun od => ⟨od, kv, upd_same, r⟩⟩
    cases t <;> simp [ObjR, upd_same, e1]
  | _ => cases hx
end
end Hw

set_option maxRecDepth 100000
set_option maxHeartbeats 4000000
namespace Hw
open PySem PySem.Spec L2
open PyProof.Rows (envOfC)
section
variable {X : Cx} {C : Kx → Addr} {E : WX} {e : Expr} {pos : Pos} {K : PySem.W.Frag} {w w' w2 : Wd} {env env' env2 : En} {S S' S2 : Sto} {σ σ' σ2 : L2.St} {H H' H2 : Hp} {p a : Addr} {o u : HO} {od : Obj} {i : Nat}
def unlockW (w w2 : Wd) : Wd := { F := w2.F, B := w.B, ρ := w2.ρ, L := w.L }
/-- the lock is gone, and the slot is forgotten -/
theorem Sim.unlk (s : Sim K C w env S σ H) (hB : w.B a = none) (le : (lockW w i a (.frz od u)).le w2) (s2 : Sim K C w2 env2 S2 σ2 H2) :
    w.le (unlockW w w2) ∧ Sim K C (unlockW w w2) (env2.set i .un) S2 σ2 H2 ∧ Fr1 (unlockW w w2) a ∧ (σ2[i]? = some (some (.ref a)) → NotMine (env2.set i .un) σ2 a) ∧ H2 a = some (.frz od u) ∧ NotMine (env2.set i .un) σ2 a := by
  have b2 : w2.B = upd w.B a (.frz od u) := le.b
  have l2 : w2.L = fun j => if j = i then some a else w.L j := le.l
  have hba : w2.B a = some (.frz od u) := by rw [b2]; exact upd_same
  have hbo : ∀ b, b ≠ a → w2.B b = w.B b := fun b h => by rw [b2]; exact upd_ne h
  have h2a : H2 a = some (.frz od u) := s2.b _ _ hba
  have fa : w2.F a = none := by
    rcases s2.fb a _ hba with h | ⟨_, h⟩
    · exact h
    · cases h
  have ra : a ∉ w2.ρ := fun hm => by
    obtain ⟨n, hn⟩ := List.getElem?_of_mem hm
    have hlt := (List.getElem?_eq_some_iff.mp hn).1
    rw [s2.ln] at hlt
    obtain ⟨_, h, _⟩ := s2.cl n _ a (List.getElem?_eq_getElem hlt) hn
    rw [hba] at h; cases h
  have bn : ∀ b, w2.B b = none → b ≠ a ∧ w.B b = none := fun b h => by
    have hne : b ≠ a := fun q => by rw [q, hba] at h; cases h
    exact ⟨hne, by rw [← hbo b hne]; exact h⟩
  have old : ∀ (j : Nat) (y : SV), (env2.set i SV.un)[j]? = some y → y = .un ∨ (j ≠ i ∧ env2[j]? = some y) := fun j y z => by
    by_cases hj : j = i
    · subst hj
      by_cases hi : j < env2.length
      · rw [List.getElem?_set_self hi] at z; cases z; exact .inl rfl
      · rw [List.getElem?_eq_none (by simpa using hi)] at z; cases z
    · rw [List.getElem?_set_ne (Ne.symm hj)] at z; exact .inr ⟨hj, z⟩
  have le' : w.le (unlockW w w2) := ⟨le.f, rfl, rfl, le.r⟩
  have ob : ∀ {b : Addr} {x : PV}, ObjR K C w2 H2 b x → ObjR K C (unlockW w w2) H2 b x := fun r => r.same rfl rfl
  have nm : NotMine (env2.set i .un) σ2 a := fun j y z m q => by
    rcases old j y z with rfl | ⟨hj, z⟩
    · cases m
    · have z2 := s2.sl j y z
      cases y with
      | own t =>
        obtain ⟨b, g1, g2, g3⟩ := z2
        rw [q] at g1
        cases g1
        exact (bn _ g2.b).1 rfl
      | _ => cases m
  refine ⟨le', ⟨s2.f, fun b v z => ?_, fun b v z => ?_, s.lb, by simpa using s2.le, fun j y z => ?_, fun j k y z b e1 e2 m1 m2 => ?_, s2.ln, s2.nd, fun n c b e1 e2 => ?_⟩, ⟨fa, hB, ra⟩, fun _ => nm, h2a, nm⟩
  · have z : w.B b = some v := z
    have hne : b ≠ a := fun q => by rw [q, hB] at z; cases z
    exact s2.b b v (by rw [hbo b hne]; exact z)
  · have z : w.B b = some v := z
    have hne : b ≠ a := fun q => by rw [q, hB] at z; cases z
    exact s2.fb b v (by rw [hbo b hne]; exact z)
  · rcases old j y z with rfl | ⟨hj, z⟩
    · trivial
    · have z2 := s2.sl j y z
      cases y with
      | un => trivial
      | v t => exact z2
      | own t =>
        obtain ⟨b, g1, g2, g3⟩ := z2
        exact ⟨b, g1, ⟨g2.f, (bn b g2.b).2, g2.r⟩, ob g3⟩
      | lk t =>
        obtain ⟨b, g0, g1, g2⟩ := z2
        rw [l2] at g0
        have g0 : (if j = i then some a else w.L j) = some b := g0
        rw [if_neg hj] at g0
        have hne : b ≠ a := fun q => by rw [q] at g0; exact s.lb j a g0 hB
        exact ⟨b, g0, g1, g2.same rfl rfl (hbo b hne).symm⟩
  · rcases old j y e1 with rfl | ⟨_, e1⟩
    · cases m1
    · rcases old k z e2 with rfl | ⟨_, e2⟩
      · cases m2
      · exact s2.od j k y z b e1 e2 m1 m2
  · obtain ⟨g1, g2, g3⟩ := s2.cl n c b e1 e2
    exact ⟨g1, (bn b g2).2, ob g3⟩
/-- .. and ours again -/
theorem Sim.relk (s : Sim K C w env S σ H) (hB : w.B a = none) (le : (lockW w i a (.frz od u)).le w2) (s2 : Sim K C w2 env2 S2 σ2 H2) {y : PV} (e : env2[i]? = some (.lk y)) :
    w.le (unlockW w w2) ∧ Sim K C (unlockW w w2) (env2.set i (.own y)) S2 σ2 (upd H2 a u) := by
  have hi := (List.getElem?_eq_some_iff.mp e).1
  obtain ⟨le', s3, fr, _, h2a, nm⟩ := s.unlk hB le s2
  have s4 := s3.free fr nm u
  obtain ⟨b, g0, g1, g2⟩ := s2.sl i _ e
  have l2 : w2.L = fun j => if j = i then some a else w.L j := le.l
  rw [l2] at g0
  have g0 : (if i = i then some a else w.L i) = some b := g0
  rw [if_pos rfl] at g0
  cases g0
  have b2 : w2.B a = some (.frz od u) := by rw [le.b]; exact upd_same
  have ob : ObjR K C (unlockW w w2) (upd H2 a u) a y := by
    cases y with
    | lst xs => obtain ⟨vs, z, r⟩ := g2; rw [b2] at z; cases z
    | dI xs => obtain ⟨o', vs, z, r⟩ := g2; rw [b2] at z; cases z; exact ⟨vs, upd_same, r⟩
    | dT xs => obtain ⟨o', vs, z, r⟩ := g2; rw [b2] at z; cases z; exact ⟨vs, upd_same, r⟩
    | _ => exact g2.elim
  have s5 := s4.put (x := .own y) (setV_un hi) (u := some (.ref a)) ⟨a, rfl, fr, ob⟩ fun j z c hj ez mz hz _ q => by
    cases q
    exact nm j z (by rw [List.getElem?_set_ne (Ne.symm hj)] at ez ⊢; exact ez) mz hz
  rw [set_same g1] at s5
  exact ⟨le', s5⟩
end
section
variable {X : Cx} {C : Kx → Addr} {E : WX} {st : Stmt}
theorem h_lk (i : Nat) {b : Sm} (h : PS X st (rS X.K C E b)) : PS X st (rS X.K C E (sLk i b)) := by
  refine (ps_lock h).imp ?_
  rintro D σ H ⟨w, env, S, s, h⟩
  unfold sLk at h
  split at h
  rotate_left
  · exact (show False from h).elim
  rename_i x e
  split at h
  rotate_left
  · exact (show False from h).elim
  rename_i hx
  obtain ⟨a, u, hu, mu, hB, h1, hob, hl⟩ := s.lock e hx
  refine ⟨a, u, hu, mu, fun od => ⟨_, _, S, hl od, ?_⟩⟩
  have hl := hl od
  have elen : ∀ {e2 : En} {y : SV}, e2[i]? = some y → i < e2.length := fun z => (List.getElem?_eq_some_iff.mp z).1
  cases hb : b (env.set i (.lk x)) S with
  | bad => rw [hb] at h; exact h.elim
  | nx e2 S2 =>
    rw [hb] at h
    dsimp only at h
    split at h
    · rename_i y ey
      intro w2 H2 σ2 le s2
      obtain ⟨le', s3⟩ := s.relk hB le s2 ey
      obtain ⟨_, _, _, _, h2a, _⟩ := s.unlk hB le s2
      exact ⟨h2a, h _ _ _ le' s3⟩
    · exact h.elim
  | bk e2 S2 =>
    rw [hb] at h
    dsimp only at h
    split at h
    · rename_i y ey
      intro w2 H2 σ2 le s2
      obtain ⟨le', s3⟩ := s.relk hB le s2 ey
      obtain ⟨_, _, _, _, h2a, _⟩ := s.unlk hB le s2
      exact ⟨h2a, h _ _ _ le' s3⟩
    · exact h.elim
  | ct e2 S2 =>
    rw [hb] at h
    dsimp only at h
    split at h
    · rename_i y ey
      intro w2 H2 σ2 le s2
      obtain ⟨le', s3⟩ := s.relk hB le s2 ey
      obtain ⟨_, _, _, _, h2a, _⟩ := s.unlk hB le s2
      exact ⟨h2a, h _ _ _ le' s3⟩
    · exact h.elim
  | rt v S2 =>
    rw [hb] at h
    intro w2 H2 z le s2 rz
    obtain ⟨le', s3, fr, _, h2a, nm⟩ := s.unlk hB le s2
    exact ⟨h2a, h _ _ _ le' (s3.free fr nm u) rz⟩
  | ex c e2 S2 =>
    rw [hb] at h
    intro w2 H2 σ2 le s2
    obtain ⟨le', s3, _⟩ := s.unlk hB le s2
    exact h _ _ _ le' s3
end
end Hw

set_option maxRecDepth 100000
set_option maxHeartbeats 4000000
namespace Hw
open PySem PySem.Spec L2
open PyProof.Rows (envOfC)
/-! ### dict comprehensions, int keys -/
def dcLoop (g : Tgt) (c k e : Ex) (env0 : En) : List PV → List (Int × PV) → Sto → R (List (Int × PV))
  | [], acc, S => .ok acc S
  | x :: xs, acc, S => match g x env0 with
    | none => .bad
    | some env1 => (c env1 S).bind fun b S => match b with
      | .bl true => (k env1 S).bind fun y S => (e env1 S).bind fun z S => match y with
        | .int k' => dcLoop g c k e env0 xs (dput acc k' z) S
        | _ => .bad
      | .bl false => dcLoop g c k e env0 xs acc S
      | _ => .bad
def eDC (it : Itx) (vs : List Nat) (g : Tgt) (c k e : Ex) : Ex := fun env S => (it env S).bind fun xs S => match wipeE vs env with
  | none => .bad
  | some env0 => if xs.length ≤ 1000000 then ((dcLoop g c k e env0 xs [] S).noex).bind fun ys S => .ok (.dI ys) S else .bad
section
variable {X : Cx} {C : Kx → Addr} {E : WX} {a b c e tg : Expr} {pos : Pos}
theorem dc_rd {E' : WX} {it : Itx} {g : Tgt} {is : List Nat} {dc dk de : Ex} {vs : List Nat} (htg : TgOk g is) (his : ∀ i ∈ is, i ∈ vs) {σ : L2.St} {H : Hp} {Q : VK} (q : rN X.K C E (eDC it vs g dc dk de) σ H Q) :
    tDc (rIt X.K C E it) (rG X.K C g is) (rT X.K C E' dc) (rE X.K C E' dk) (rE X.K C E' de) vs σ H Q := by
  obtain ⟨w, env, S, s, h⟩ := q
  unfold eDC at h
  refine ⟨w, env, S, s, h.bind.mono fun xs S1 w1 H1 le1 s1 h1 J fd D hD => ?_⟩
  cases hw : wipeE vs env with
  | none => rw [hw] at h1; exact h1.elim
  | some env0 =>
    rw [hw] at h1
    have h1 : Wp X.K C E w1 env σ (if xs.length ≤ 1000000 then ((dcLoop g dc dk de env0 xs [] S1).noex).bind fun ys S => R.ok (PV.dI ys) S else R.bad) (fun v _ w' H' => ∀ p, Fr1 w' p → NotMine env σ p → ObjR X.K C w' H' p v → Q (.ref p) H') := h1
    split at h1
    rotate_left
    · exact h1.elim
    rename_i hlen
    cases hr : dcLoop g dc dk de env0 xs [] S1 with
    | ex c S' => rw [hr] at h1; exact h1.elim
    | bad => rw [hr] at h1; exact h1.elim
    | ok ys Sf =>
      rw [hr] at h1
      have h1 : ∀ w' H', w1.le w' → Sim X.K C w' env Sf σ H' → ∀ p, Fr1 w' p → NotMine env σ p → ObjR X.K C w' H' p (.dI ys) → Q (.ref p) H' := h1
      have hLp : ∀ i, w1.L i ≠ some D := fun i z => by
        have q := s1.lb i D z
        cases hb : w1.B D with
        | none => exact q hb
        | some u => rw [s1.b _ _ hb] at hD; cases hD
      -- the invariant
      refine ⟨fun i m H => m = xs.length - i ∧ i ≤ xs.length ∧ ∃ w2 S2 acc us, w1.le w2 ∧ Sim X.K C (w2.prot D (.dK acc)) env0 S2 (L2.wipe σ vs) H ∧ RepI X.K C w2.F w2.ρ acc us ∧ w2.B D = none ∧ acc.length ≤ i ∧
        dcLoop g dc dk de env0 (xs.drop i) us S2 = .ok ys Sf, ⟨_, rfl, Nat.zero_le _, w1, S1, [], [], Wd.le.refl _, ?_, .nil, s1.b.gone hD, Nat.zero_le _, hr⟩, ?_⟩
      · obtain ⟨s2, fr, nm⟩ := s1.loose (o := .dK []) hD
        exact ((s2.wipe hw).prot fr (fun i x e m => by
          rcases (wipeE_get hw).2 i x e with ⟨rfl, _⟩ | ⟨h1, h2⟩
          · cases m
          · rw [wipe_get, if_neg h2]; exact nm i x h1 m) upd_same)
      rintro i m H2 ⟨rfl, hil, w2, S2, acc, us, le2, s2, rl, hB, hal, hlc⟩
      have lep : w1.le w2 := le2
      have fdi := fd (w2.prot D (.dK acc)) H2
      have hL2 : ∀ i, w2.L i ≠ some D := fun i => by rw [le2.l]; exact hLp i
      by_cases hlt : i < xs.length
      · -- a turn
        have hx : xs[i]? = some xs[i] := List.getElem?_eq_getElem hlt
        have hdrop : xs.drop i = xs[i] :: xs.drop (i + 1) := List.drop_eq_getElem_cons hlt
        rw [hdrop] at hlc
        unfold dcLoop at hlc
        have fd2 : J.go i H2 ∧ ∀ x H3, J.yld i H2 x H3 → ∃ F3, Grow w2.F H2 F3 H3 ∧ Rep X.K C F3 w2.ρ x xs[i] :=
          ((fd.up le2) w2 H2 (Wd.le.refl _) s2.f (fun q u z => s2.b q u (by rw [prot_ne (fun h => by rw [h, hB] at z; cases z)]; exact z))).1 i _ hx
        refine .inr ⟨fd2.1, fun H' => (fun i m H => m = xs.length - i ∧ i ≤ xs.length ∧ ∃ w2 S2 acc us, w1.le w2 ∧ Sim X.K C (w2.prot D (.dK acc)) env0 S2 (L2.wipe σ vs) H ∧ RepI X.K C w2.F w2.ρ acc us ∧ w2.B D = none ∧ acc.length ≤ i ∧
          dcLoop g dc dk de env0 (xs.drop i) us S2 = .ok ys Sf) (i + 1) (xs.length - (i + 1)) H', fun H' z => ⟨_, by omega, z⟩, fun x H3 hy => ?_⟩
        obtain ⟨F3, gr, rx⟩ := fd2.2 x H3 hy
        obtain ⟨s3, le3⟩ := s2.grow gr
        cases hgx : g xs[i] env0 with
        | none => rw [hgx] at hlc; cases hlc
        | some env1 =>
          rw [hgx] at hlc
          dsimp only at hlc
          refine ⟨_, env0, S2, xs[i], env1, s3, rx, hgx, fun σ2 s4 ch => ⟨ch.wipe his, ?_⟩⟩
          refine ⟨_, env1, S2, s4, ?_⟩
          cases hcv : dc env1 S2 with
          | ex c S' => rw [hcv] at hlc; cases hlc
          | bad => rw [hcv] at hlc; cases hlc
          | ok bv S5 =>
            rw [hcv] at hlc
            intro w5 H5 le5 s5
            -- back from the turn to the block's head
            have back : ∀ (w6 : Wd) (S6 : Sto) (H6 : Hp), ({ w2.prot D (.dK acc) with F := F3 } : Wd).le w6 → Sim X.K C w6 env1 S6 σ2 H6 → ∃ w7, w2.le w7 ∧ w6 = w7.prot D (.dK acc) ∧ w7.B = w2.B ∧ Sim X.K C (w7.prot D (.dK acc)) env0 S6 (L2.wipe σ vs) H6 := fun w6 S6 H6 le6 s6 => by
              obtain ⟨w7, l7, e7, b7, _, f7, r7⟩ := Wd.le.unprot (o' := .dK acc) (le3.trans le6)
              obtain ⟨tl, to⟩ := htg _ _ _ hgx
              refine ⟨w7, l7, e7, b7, ?_⟩
              rw [← e7]
              exact Sim.back hw s6 tl to ch his
            cases bv with
            | bl k =>
              refine ⟨k, rfl, ?_⟩
              cases k with
              | false =>
                rw [if_neg Bool.false_ne_true]
                obtain ⟨w7, l7, e7, b7, s7⟩ := back w5 S5 H5 le5 s5
                exact ⟨rfl, hlt, w7, S5, acc, us, le2.trans l7, s7, RepI.le l7.f (fun _ _ e => l7.get e) rl, by rw [b7]; exact hB, by omega, hlc⟩
              | true =>
                rw [if_pos rfl]
                have hlc : (dk env1 S5).bind (fun y S => (de env1 S).bind fun z S => match y with
                  | .int k => dcLoop g dc dk de env0 (xs.drop (i + 1)) (dput us k z) S
                  | _ => .bad) = .ok ys Sf := hlc
                refine ⟨w5, env1, S5, s5, ?_⟩
                cases hkv : dk env1 S5 with
                | ex c S' => rw [hkv] at hlc; cases hlc
                | bad => rw [hkv] at hlc; cases hlc
                | ok y S6 =>
                rw [hkv] at hlc
                intro w6 H6 le6 s6 yv ry
                refine ⟨w6, env1, S6, s6, ?_⟩
                have hlc : (de env1 S6).bind (fun z S => match y with
                  | .int k => dcLoop g dc dk de env0 (xs.drop (i + 1)) (dput us k z) S
                  | _ => .bad) = .ok ys Sf := hlc
                cases hev : de env1 S6 with
                | ex c S' => rw [hev] at hlc; cases hlc
                | bad => rw [hev] at hlc; cases hlc
                | ok z S7 =>
                rw [hev] at hlc
                intro w8 H8 le8 s8 zv rz
                cases y with
                | int k =>
                  have hlc : dcLoop g dc dk de env0 (xs.drop (i + 1)) (dput us k z) S7 = .ok ys Sf := hlc
                  cases ry
                  obtain ⟨w7, l7, e7, b7, s7⟩ := back w8 S7 H8 ((le5.trans le6).trans le8) s8
                  have hB7 : w7.B D = none := by rw [b7]; exact hB
                  obtain ⟨s9, fr9, nm9, hp9⟩ := s7.unprot hB7 (fun _ z => nomatch z) (fun i => by rw [l7.l]; exact hL2 i)
                  refine ⟨acc, .inl k, rfl, hp9, Nat.lt_of_le_of_lt (Nat.le_trans hal (Nat.le_of_lt (Nat.lt_of_lt_of_le hlt hlen))) (by decide), ?_⟩
                  refine ⟨rfl, hlt, w7, S7, putK acc (.inl k) zv, dput us k z, le2.trans l7, ?_, ?_, hB7, ?_, hlc⟩
                  · exact ((s9.free fr9 nm9 (.dK (putK acc (.inl k) zv))).prot fr9 nm9 upd_same)
                  · rw [e7] at rz
                    exact (RepI.le l7.f (fun _ _ e => l7.get e) rl).put k rz
                  · have q := length_putK acc (.inl k) zv
                    omega
                | _ => cases hlc
            | _ => cases hlc
      · have e : i = xs.length := by omega
        subst e
        rw [List.drop_length] at hlc
        cases hlc
        obtain ⟨s3, fr, nm, hp⟩ := s2.unprot hB (fun _ z => nomatch z) hL2
        have s4 := s1.unwipe le2 hw s3
        refine .inl ⟨((fd.up le2) w2 H2 (Wd.le.refl _) s3.f s3.b).2, h1 w2 H2 le2 s4 D fr (fun i x z m q => ?_) ⟨acc, hp, rl⟩⟩
        have hi : i ∉ vs := fun hi => by
          rw [(wipeE_plain hw i hi x z).1] at m; cases m
        have hlt' : i < env0.length := by rw [(wipeE_get hw).1]; exact (List.getElem?_eq_some_iff.mp z).1
        rcases (wipeE_get hw).2 i _ (List.getElem?_eq_getElem hlt') with ⟨_, y⟩ | ⟨y, _⟩
        · exact hi y
        · refine nm i x (by rw [List.getElem?_eq_getElem hlt', ← y]; exact z) m ?_
          rw [wipe_get, if_neg hi]; exact q
/-- {k: v for ..}, the new object -/
theorem h_dcN {E' : WX} {kx elt iter : Expr} {ifs : List Expr} {scope : Scope} {own : List (Str × Nat)} {it : Itx} {g : Tgt} {is : List Nat} {dc dk de : Ex} (hc : X.calm = true) (hN : X.N.Nodup) (hi : PI X tg iter (rIt X.K C E it)) (ok : BlkOk X.N X.env.scope scope own)
    (hg : ∀ (s : Shared) (H : Hp) (Ca : Addr) (cl : List (Str × Addr)) (fp : List Addr), PG (X.blk s H scope (compEnvC scope cl Ca X.env) fp) tg (rG X.K C g is)) (ht : ∀ (s : Shared) (H : Hp) (Ca : Addr) (cl : List (Str × Addr)) (fp : List Addr), PTs (X.blk s H scope (compEnvC scope cl Ca X.env) fp) ifs (rT X.K C E' dc))
    (hk : ∀ (s : Shared) (H : Hp) (Ca : Addr) (cl : List (Str × Addr)) (fp : List Addr), PE (X.blk s H scope (compEnvC scope cl Ca X.env) fp) kx (rE X.K C E' dk))
    (he : ∀ (s : Shared) (H : Hp) (Ca : Addr) (cl : List (Str × Addr)) (fp : List Addr), PE (X.blk s H scope (compEnvC scope cl Ca X.env) fp) elt (rE X.K C E' de)) (htg : TgOk g is) (his : ∀ i ∈ is, i ∈ own.map (·.2) := by decide) (hs : ∀ x, foldedSetIterable iter X.env x = pure x := by intro _; rfl) :
    PE X (.DictComp kx elt [⟨tg, iter, ifs, 0⟩] scope pos) (rN X.K C E (eDC it (own.map (·.2)) g dc dk de)) :=
  (pe_dc hc hN hi ok hg ht hk he hs).imp fun σ H Q q => dc_rd htg his q
end
end Hw

set_option maxRecDepth 100000
set_option maxHeartbeats 4000000
namespace Hw
open PySem PySem.Spec L2 PyProof.Rows
section
variable {X : Cx}
/-- y = {k: v for ..} on one line -/
theorem ps_setDc {i : Nat} {y : Str} {py : Pos} {kx vx tg iter : Expr} {ifs : List Expr} {scope : Scope} {own : List (Str × Nat)} {pos spos : Pos} {wi : TI} {g : TG} {tt : TT} {tk te : TE} (hc : X.calm = true) (hN : X.N.Nodup) (hy : X.N[i]? = some y) (hyl : X.env.scope.names.lookup y = some .local)
    (hsw : swapsWith (.DictComp kx vx [⟨tg, iter, ifs, 0⟩] scope pos) (some (.Name y py)) spos.line X.env = pure true) (hi : PI X tg iter wi) (ok : BlkOk X.N X.env.scope scope own)
    (hg : ∀ (s : Shared) (H : Hp) (C : Addr) (cl : List (Str × Addr)) (fp : List Addr), PG (X.blk s H scope (compEnvC scope cl C X.env) fp) tg g) (ht : ∀ (s : Shared) (H : Hp) (C : Addr) (cl : List (Str × Addr)) (fp : List Addr), PTs (X.blk s H scope (compEnvC scope cl C X.env) fp) ifs tt)
    (hk : ∀ (s : Shared) (H : Hp) (C : Addr) (cl : List (Str × Addr)) (fp : List Addr), PE (X.blk s H scope (compEnvC scope cl C X.env) fp) kx tk)
    (he : ∀ (s : Shared) (H : Hp) (C : Addr) (cl : List (Str × Addr)) (fp : List Addr), PE (X.blk s H scope (compEnvC scope cl C X.env) fp) vx te) (hs : ∀ x, foldedSetIterable iter X.env x = pure x := by intro _; rfl) :
    PS X (.Assign [.Name y py] (.DictComp kx vx [⟨tg, iter, ifs, 0⟩] scope pos) spos) (tAsg (tDc wi g tt tk te (own.map (·.2))) (gName i)) := by
  refine ⟨fun pins s σ H D I h => ?_⟩
  rw [exec_Assign_Name_used _ _ _ _ hsw]
  refine wpAny_bind (wpAny_standAt (wpAny_bind ?_))
  show wpAny _ X.A (do let _ ← comprehension (.DictComp kx vx [⟨tg, iter, ifs, 0⟩] scope pos) scope X.env (firstIterPos [⟨tg, iter, ifs, 0⟩] pos) newDict false (eval iter X.env) (some (assign (.Name y py) X.env))) _ _ s
  have h : tDc wi g tt tk te (own.map (·.2)) σ H (fun x H1 => gName i x σ H1 D.nx) := h
  refine wpAny_bind (thn (dc_core (Qf := fun _ s' => SP X pins D .next s') hc hN I hi ok hg ht hk he hs h fun L C s' m H' I' q hn f => ?_) fun _ s' hq => wpAny_pure (wpAny_pure hq))
  show wpAny _ _ (assign (.Name y py) X.env (.ref L)) _ _ _
  refine wpAny_assign_Name (store_ok2 (v := V.ref L) I' hN hy (.inl hyl) rfl (fun s2 I2 ⟨a, sb, ha⟩ => ?_) (.inr hyl))
  obtain ⟨f0, f1, f2, f3, f4, f5⟩ := f
  have haC : C ≠ a := by
    rcases ha with z | z
    · rw [z]; exact f1
    · exact fun e => f4 y a z e.symm
  refine ⟨m, hn.sameBut sb haC, fun h3 sb3 => ?_⟩
  exact ⟨_, H', I2.turned (t' := s2.toks) (fun b o hb e => (sb3.2 b hb).trans e) f0 f1 f3 f4 f5, q⟩
variable {C : Kx → Addr} {E : WX} {a b c e tg : Expr} {pos : Pos}
theorem h_ownDc {E' : WX} {i : Nat} {y : Str} {py pos' : Pos} {kx elt iter : Expr} {ifs : List Expr} {scope : Scope} {own : List (Str × Nat)} {it : Itx} {g : Tgt} {is : List Nat} {dc dk de : Ex} (hc : X.calm = true) (hN : X.N.Nodup) (hy : X.N[i]? = some y) (hyl : X.env.scope.names.lookup y = some .local)
    (hsw : swapsWith (.DictComp kx elt [⟨tg, iter, ifs, 0⟩] scope pos) (some (.Name y py)) pos'.line X.env = pure true) (hi : PI X tg iter (rIt X.K C E it)) (ok : BlkOk X.N X.env.scope scope own)
    (hg : ∀ (s : Shared) (H : Hp) (Ca : Addr) (cl : List (Str × Addr)) (fp : List Addr), PG (X.blk s H scope (compEnvC scope cl Ca X.env) fp) tg (rG X.K C g is)) (ht : ∀ (s : Shared) (H : Hp) (Ca : Addr) (cl : List (Str × Addr)) (fp : List Addr), PTs (X.blk s H scope (compEnvC scope cl Ca X.env) fp) ifs (rT X.K C E' dc))
    (hk : ∀ (s : Shared) (H : Hp) (Ca : Addr) (cl : List (Str × Addr)) (fp : List Addr), PE (X.blk s H scope (compEnvC scope cl Ca X.env) fp) kx (rE X.K C E' dk))
    (he : ∀ (s : Shared) (H : Hp) (Ca : Addr) (cl : List (Str × Addr)) (fp : List Addr), PE (X.blk s H scope (compEnvC scope cl Ca X.env) fp) elt (rE X.K C E' de)) (htg : TgOk g is) (his : ∀ i ∈ is, i ∈ own.map (·.2) := by decide) (hs : ∀ x, foldedSetIterable iter X.env x = pure x := by intro _; rfl) :
    PS X (.Assign [.Name y py] (.DictComp kx elt [⟨tg, iter, ifs, 0⟩] scope pos) pos') (rS X.K C E (sOwn i (eDC it (own.map (·.2)) g dc dk de))) :=
  (ps_setDc hc hN hy hyl hsw hi ok hg ht hk he hs).imp fun D σ H ⟨w, env, S, s, h⟩ => dc_rd htg his (own_rd s h)
/-! ### {}, {k: v}, d.get(k), len(d) -/
theorem h_dI0 : PE X (.Dict [] [] pos) (rN X.K C E eDI0) := by
  refine pe_dnewK.imp ?_
  rintro σ H Q ⟨w, env, S, s, h⟩
  intro p hp
  obtain ⟨s2, fr, nm⟩ := s.loose (o := .dK []) hp
  exact h _ _ (Wd.le.refl _) s2 p fr nm ⟨[], upd_same, .nil⟩
/-- o.get(k) -/
def eGet1 (o : Plx) (k : Ex) : Ex := fun env S => (o env S).bind fun p S => match res p env S with
  | some (.dI _) => (k env S).bind fun kv S => match res p env S, kv with
    | some (.dI kvs), .int i => .ok ((dval kvs i).getD .non) S
    | _, _ => .bad
  | _ => .bad
theorem h_get1 {o : Expr} {apos cpos : Pos} {do_ : Plx} {dk : Ex} (hu : X.A.units + 1 < cLine) (ho : PE X o (rP X.K C E do_)) (he : PE X e (rE X.K C E dk)) (m : M1 X o "get" apos e cpos) : PE X (.Call (.Attribute o "get" apos) [e] [] cpos) (rE X.K C E (eGet1 do_ dk)) := by
  refine (pe_dget1 hu ho he m).imp ?_
  rintro σ H Q ⟨w, env, S, s, h⟩
  unfold eGet1 at h
  refine ⟨w, env, S, s, h.bind.mono fun p S1 w1 H1 le1 s1 h1 x rx => ?_⟩
  split at h1
  · rename_i kvs e1
    obtain ⟨a, kv, rfl, hr, ri⟩ := Seen.dI s1.f (rx.seen s1 e1)
    refine ⟨a, rfl, .inl ⟨kv, hr⟩, w1, env, S1, s1, h1.bind.mono fun u S3 w3 H3 le3 s3 h3 y ry => ?_⟩
    split at h3
    · rename_i kvs2 i e2
      obtain ⟨a2, kv2, ea, hr2, ri2⟩ := Seen.dI s3.f ((rx.up le3).seen s3 e2)
      cases ea
      cases ry
      refine ⟨valV kv2 (.inl i), .inl ⟨kv2, .inl i, hr2, rfl, rfl⟩, ?_⟩
      rcases ri2.val i with ⟨n1, n2⟩ | ⟨v2, z2, g1, g2, g3⟩
      · rw [n1]
        rw [n2] at h3
        exact h3 w3 H3 (Wd.le.refl _) s3 .non .non
      · rw [g1]
        rw [g2] at h3
        exact h3 w3 H3 (Wd.le.refl _) s3 v2 g3
    · exact h3.elim
  · exact h1.elim
end
end Hw

set_option maxRecDepth 100000
set_option maxHeartbeats 4000000
namespace Hw
open PySem PySem.Spec L2 PyProof.Rows
/-! ### d |= e, int keys -/
theorem meets_dict_ior {prog : Program} {w : World} {K : Type} [DecidableEq K] (knd : KeyKind prog w K) (d o : Addr) (hdo : d ≠ o) (hoS : (o == sysModules) = false) :
    MeetsIn prog w (Builtin.«dict.__ior__» ⟨[.ref d, .ref o], []⟩) (fun _ R s => ∃ kvs more, s.heap.DictOf knd d kvs ∧ s.heap.DictOf knd o more ∧ kvs.length + more.length ≤ sizeLine ∧
      ∀ h', h'.DictOf knd d (merged kvs more) → h'.DictOf knd o more → Heap.SameBut d s.heap h' → R (.ok (.ret (.ref d))) { s with heap := h' }) :=
  .of_wp fun A R s ⟨kvs, more, hd, ho, hsz, h⟩ => by
    unfold Builtin.«dict.__ior__»
    refine wpAny_bind ?_
    unfold Builtin.Dict.dictSlotArgs
    refine wpAny_bind (wpAny_notOrdered_dict hd.typeIs ?_)
    show wpAny _ _ (pure (Value.ref d, Value.ref o)) _ _ s
    refine wpAny_pure ?_
    show wpAny _ _ (Builtin.Dict.updateFrom "dict.__ior__" d (.ref o) [] (.ref d)) _ _ s
    unfold Builtin.Dict.updateFrom
    refine wpAny_bind (wpAny_typeOf ho.typeIs ?_)
    rw [if_neg (by decide)]
    refine wpAny_bind ?_
    unfold Builtin.Dict.merge
    refine wpAny_bind ?_
    · unfold Builtin.Dict.readDirectly
      refine wpAny_bind (wpAny_isInstance ho.typeIs isSubtype_dict_dict ?_)
      simp only [Bool.not_true, Bool.false_eq_true, if_false]
      refine wpAny_bind (wpAny_specialOf ho.typeIs F.slot_dict_iter.lookup (wpAny_pure ?_))
      simp only [beq_self_eq_true, if_true]
      refine wpAny_bind (wpAny_pure ?_)
      refine wpAny_mergeDict (hsz := hsz) hdo hoS hd ho fun h' hd' ho' hs' => ?_
      show wpAny _ _ (Builtin.Dict.addKeywords d [] >>= _) _ _ _
      exact wpAny_bind (wpAny_pure (wpAny_pure ⟨.ref d, rfl, h h' hd' ho' hs'⟩))
theorem ior_road {M : Model} {A : Around} {E : Value → Shared → Prop} {s : Shared} {a b : Value} {Q : Value → Shared → Prop} (ha : s.TypeIs a "dict") (hc : wpAny M A (call (.builtin "dict.__ior__") [a, b]) (fun v s' => v ≠ .notImplemented ∧ Q v s') E s) : wpAny M A (inplaceOp .BitOr a b) Q E s := by
  have hsl : typeLookup (.type "dict") (dunderI "or") = pure (some (.builtin "dict.__ior__")) := PySem.F.slot_dict_ior.lookup
  have hsq : isSeqSlot (some (.builtin "dict.__ior__")) = false := by decide +kernel
  have hfi : fillsInplaceSlot (.type "dict") "or" (Operator.BitOr == .Add) = pure true := by
    unfold fillsInplaceSlot
    show (typeLookup (.type "dict") (dunderI "or") >>= fun fi => pure (fi.isSome && !isSeqSlot fi)) = pure true
    rw [hsl]
    show (pure (true && !isSeqSlot (some (.builtin "dict.__ior__"))) : Sem Bool) = pure true
    rw [hsq] <;> rfl
  unfold inplaceOp
  refine wpAny_holding ?_
  refine wpAny_bind (wpAny_typeOf ha (wpAny_bind (wpAny_of_eq hfi ?_)))
  show wpAny M A (if true = true then _ else _) Q E s
  rw [if_pos rfl]
  refine wpAny_bind (wpAny_tryMethod_slot ha PySem.F.slot_dict_ior (wpAny_mono hc (fun v s' h' => ⟨h'.1, ?_⟩) fun _ _ h' => h'))
  exact wpAny_bind (wpAny_rule (wpAny_pure h'.2))
def tIor : TIp := fun x y H Q => ∃ a b kvs more, x = .ref a ∧ y = .ref b ∧ a ≠ b ∧ H a = some (.dK kvs) ∧ Rd H b (.dK more) ∧ kvs.length + more.length ≤ sizeLine ∧ Q (.ref a) (upd H a (.dK (mergeK kvs more)))
section
variable {X : Cx} {C : Kx → Addr} {E : WX} {e : Expr} {pos : Pos} {K : PySem.W.Frag} {F H : Hp} {ρ : List Addr} {da : Ex}
theorem ip_ior : PIp X .BitOr tIor := by
  intro pins s σ H x y v u Q I rx ry h
  obtain ⟨a, b, kvs, more, rfl, rfl, hab, hH, hB, hz, q⟩ := h
  cases rx
  cases ry
  obtain ⟨z1, lo1, vs, r1, d1⟩ := dk_of I.hok hH
  obtain ⟨z2, lo2, ws, r2, d2⟩ := dk_rd I.hok hB
  have l1 := r1.length
  have l2 := r2.length
  refine ior_road d1.typeIs ?_
  refine call_meetsIn PySem.F.slot_dict_ior d1.typeIs PySem.F.entry_dict_ior (PySem.F.args_dict_ior_2 _ _) (meets_dict_ior _ a b hab lo2) ⟨vs, ws, d1, d2, by omega, fun h' hd' _ hs => ?_⟩
  refine ⟨(fun z => nomatch z : Value.ref a ≠ .notImplemented), ?_⟩
  have he : ∃ q, h'.get? a = some q := let ⟨q, _, _, hq, _⟩ := hd'; ⟨q, hq⟩
  have hl : (mergeK kvs more).length ≤ sizeLine := Nat.le_trans (length_mergeK more kvs) hz
  exact ⟨.ref a, _, d_write (t' := s.toks) I (by rw [hH]; exact trivial) hs he (dk_new hl lo1 (r2.merge r1) hd'), rfl, q⟩
def mergeD (kvs more : List (Int × PV)) : List (Int × PV) := more.foldl (fun acc p => dput acc p.1 p.2) kvs
theorem RepI.merge : ∀ {kw : List (Key × V)} {kws : List (Int × PV)} {kv : List (Key × V)} {kvs : List (Int × PV)}, RepI K C F ρ kw kws → RepI K C F ρ kv kvs → RepI K C F ρ (mergeK kv kw) (mergeD kvs kws)
  | _, _, _, _, .nil, s => s
  | _, _, _, _, @RepI.cons _ _ _ _ k v r x s' hv hr, s => by
    have h := RepI.merge hr (s.put k hv)
    exact h
/-- x |= e, x our own int dict -/
def sIor (i : Nat) (d : Ex) : Sm := fun env S => match env[i]? with
  | some (.own (.dI kvs)) => (match d env S with
    | .ok (.dI more) S => if kvs.length ≤ 1000000 ∧ more.length ≤ 1000000 then .nx (env.set i (.own (.dI (mergeD kvs more)))) S else .bad
    | .ok _ _ => .bad
    | .ex c S => .ex c env S
    | .bad => .bad)
  | _ => .bad
theorem h_ior {i : Nat} {x : Str} {pos' : Pos} (hN : X.N.Nodup) (hi : X.N[i]? = some x) (hx : Loc X.env.scope x) (he : PE X e (rE X.K C E da)) (hf : X.fn x = true ∨ X.env.scope.names.lookup x = some .local := by first | exact .inl rfl | exact .inr rfl | assumption) :
    PS X (.AugAssign (.Name x pos') .BitOr e pos) (rS X.K C E (sIor i da)) := by
  refine (ps_aug hN hi hx he ip_ior hf).imp ?_
  rintro D σ H ⟨w, env, S, s, h⟩
  unfold sIor at h
  split at h
  · rename_i kvs e1
    obtain ⟨q, z1, fr, _⟩ := own_at s e1
    refine ⟨.ref q, z1, w, env, S, s, ?_⟩
    cases hd : da env S with
    | ex c S1 => rw [hd] at h; exact fun w1 H1 le s1 => h w1 H1 σ le s1
    | bad => rw [hd] at h; exact h.elim
    | ok v S1 =>
      rw [hd] at h
      intro w1 H1 le s1 y ry
      cases v with
      | dI more =>
        dsimp only at h
        split at h
        · rename_i hl
          obtain ⟨kv, g1, g2⟩ := own_same s1 e1 z1
          obtain ⟨q', z1', fr1, _⟩ := own_at s1 e1
          rw [z1] at z1'
          cases z1'
          have ry : Rep X.K C w1.F w1.ρ y (.dI more) := ry
          cases ry with
          | @dI b o kw _ hb rb =>
            have hab : q ≠ b := fun z => by rw [← z, fr1.f] at hb; cases hb
            refine ⟨q, b, kv, kw, rfl, rfl, hab, g1, .inr ⟨_, s1.f _ _ hb⟩, by rw [g2.len, rb.len]; exact Nat.le_trans (Nat.add_le_add hl.1 hl.2) (by decide), ?_⟩
            show D.nx (σ.set i (some (.ref q))) _
            rw [set_same z1]
            exact h w1 _ σ le (s1.ownU e1 z1 ⟨_, upd_same, rb.merge g2⟩)
        · exact h.elim
      | _ => exact h.elim
  · exact h.elim
end
end Hw

set_option maxRecDepth 100000
set_option maxHeartbeats 4000000
namespace Hw
open PySem PySem.Spec L2 PyProof.Rows
/-! ### == and != of int dicts with flat values -/
def dEqB (ks ls : List (Int × PV)) : Bool := ks.length == ls.length && ks.all fun p => match dval ls p.1 with | some y => p.2.eq y | none => false
def dEqV (ks ls : List (Key × V)) : Bool := ks.length == ls.length && ks.all fun p => match valV ls p.1 with | some y => eqV p.2 y | none => false
def rEqDI : R2 := fun x y H Q => ∃ a b ks ls, x = .ref a ∧ y = .ref b ∧ Rd H a (.dK ks) ∧ Rd H b (.dK ls) ∧ (ks.all fun p => flatV p.2) = true ∧ (ls.all fun p => flatV p.2) = true ∧ Q (.bl (dEqV ks ls)) H
def rNeDI : R2 := fun x y H Q => ∃ a b ks ls, x = .ref a ∧ y = .ref b ∧ Rd H a (.dK ks) ∧ Rd H b (.dK ls) ∧ (ks.all fun p => flatV p.2) = true ∧ (ls.all fun p => flatV p.2) = true ∧ Q (.bl (!dEqV ks ls)) H
theorem valV_mem {ls : List (Key × V)} {k : Key} {v : V} (h : valV ls k = some v) : ∃ p ∈ ls, p.2 = v := by
  induction ls with
  | nil => cases h
  | cons p r ih =>
    by_cases e : p.1 = k
    · rw [valV_pos e] at h
      cases h
      exact ⟨p, by simp, rfl⟩
    · rw [valV_neg e] at h
      obtain ⟨q, hq, e⟩ := ih h
      exact ⟨q, by simp [hq], e⟩
theorem hits_b {A : Around} {s : Shared} {ls : List (Key × V)} {vb : List (Key × Value)} (rb : KV ls vb) (fb : (ls.all fun p => flatV p.2) = true) {ks : List (Key × V)} {va : List (Key × Value)} (ra : KV ks va) :
    (ks.all fun p => flatV p.2) = true → PySem.W.KeqHits A s vb va (ks.all fun p => match valV ls p.1 with | some y => eqV p.2 y | none => false) := by
  unfold KV at ra
  induction ra with
  | nil => intro _; exact .nil
  | @cons p q ps qs h t ih =>
    intro hp
    rw [List.all_cons, Bool.and_eq_true] at hp
    obtain ⟨h1, h2⟩ := h
    obtain ⟨k, v⟩ := q
    have h1' : p.1 = k := h1
    rw [List.all_cons]
    have rr : RelO (valV ls p.1) (valueAt vb p.1) := rb.val p.1
    cases e : valV ls p.1 with
    | none =>
      rw [e] at rr
      have hn : valueAt vb k = none := by
        rw [h1'] at rr
        cases z : valueAt vb k with
        | none => rfl
        | some y => rw [z] at rr; exact rr.elim
      simp only [Bool.false_and]
      exact .miss hn
    | some y =>
      rw [e] at rr
      obtain ⟨y', hy, ry⟩ := rr.some_of
      rw [h1'] at hy
      obtain ⟨p', hp', ey⟩ := valV_mem e
      have fy : flatV y = true := by rw [← ey]; exact List.all_eq_true.mp fb p' hp'
      exact .hit hy (eqAt_V h2 ry hp.1 fy) (ih hp.2)
section
variable {X : Cx}
theorem op_eqDI (hu : X.A.units < cLine) : OpR X (compareOp .Eq) rEqDI := by
  intro pins s σ H x y v u Q I rx ry h
  obtain ⟨a, b, ks, ls, rfl, rfl, ea, eb, fa, fb, q⟩ := h
  obtain rfl : v = Value.ref a := rx
  obtain rfl : u = Value.ref b := ry
  obtain ⟨_, ya, va, ra, da⟩ := dk_rd I.hok ea
  obtain ⟨_, yb, vb, rb, db⟩ := dk_rd I.hok eb
  have l1 := ra.length
  have l2 := rb.length
  exact PySem.W.keq_eq (knd := mixKind X.prog X.w) ya yb da db hu (fun _ => hits_b rb fb ra fa) (fin_bl I q (by unfold dEqV; rw [l1, l2]))
theorem op_neDI (hu : X.A.units < cLine) : OpR X (compareOp .NotEq) rNeDI := by
  intro pins s σ H x y v u Q I rx ry h
  obtain ⟨a, b, ks, ls, rfl, rfl, ea, eb, fa, fb, q⟩ := h
  obtain rfl : v = Value.ref a := rx
  obtain rfl : u = Value.ref b := ry
  obtain ⟨_, ya, va, ra, da⟩ := dk_rd I.hok ea
  obtain ⟨_, yb, vb, rb, db⟩ := dk_rd I.hok eb
  have l1 := ra.length
  have l2 := rb.length
  exact PySem.W.keq_ne (knd := mixKind X.prog X.w) ya yb da db hu (fun _ => hits_b rb fb ra fa) (fin_bl I q (by unfold dEqV; rw [l1, l2]))
end
section
variable {K : PySem.W.Frag} {C : Kx → Addr} {F H : Hp} {ρ : List Addr}
theorem RepI.flat : ∀ {kv : List (Key × V)} {kvs : List (Int × PV)}, RepI K C F ρ kv kvs → (kvs.all fun p => flatP p.2) = true → (kv.all fun p => flatV p.2) = true
  | _, _, .nil, _ => rfl
  | _, _, .cons hr hs, h => by
    rw [List.all_cons, Bool.and_eq_true] at h ⊢
    exact ⟨flat_rep hr h.1, RepI.flat hs h.2⟩
theorem dval_mem {ls : List (Int × PV)} {k : Int} {v : PV} (h : dval ls k = some v) : ∃ p ∈ ls, p.2 = v := by
  induction ls with
  | nil => cases h
  | cons p r ih =>
    obtain ⟨j, x⟩ := p
    unfold dval at h
    by_cases e : j = k
    · rw [if_pos e] at h
      cases h
      exact ⟨(j, v), List.mem_cons_self, rfl⟩
    · rw [if_neg e] at h
      obtain ⟨q, hq, e⟩ := ih h
      exact ⟨q, by simp [hq], e⟩
theorem deq_all {lv : List (Key × V)} {ls : List (Int × PV)} (rb : RepI K C F ρ lv ls) (fb : (ls.all fun p => flatP p.2) = true) : ∀ {kv : List (Key × V)} {ks : List (Int × PV)}, RepI K C F ρ kv ks → (ks.all fun p => flatP p.2) = true →
    (kv.all fun p => match valV lv p.1 with | some y => eqV p.2 y | none => false) = (ks.all fun p => match dval ls p.1 with | some y => p.2.eq y | none => false)
  | _, _, .nil, _ => rfl
  | _, _, @RepI.cons _ _ _ _ k v r x s hr hs, h => by
    rw [List.all_cons, Bool.and_eq_true] at h
    rw [List.all_cons, List.all_cons, deq_all rb fb hs h.2]
    congr 1
    rcases rb.val k with ⟨h1, h2⟩ | ⟨v2, x2, h1, h2, h3⟩
    · dsimp only; rw [h1, h2]
    · dsimp only; rw [h1, h2]
      obtain ⟨p', hp', ey⟩ := dval_mem h2
      exact flat_eq (H := fun _ => none) hr (.inl h3) h.1 (by rw [← ey]; exact List.all_eq_true.mp fb p' hp')
theorem deq_rep {lv kv : List (Key × V)} {ls ks : List (Int × PV)} (ra : RepI K C F ρ kv ks) (rb : RepI K C F ρ lv ls) (fa : (ks.all fun p => flatP p.2) = true) (fb : (ls.all fun p => flatP p.2) = true) : dEqV kv lv = dEqB ks ls := by
  unfold dEqV dEqB
  rw [ra.len, rb.len, deq_all rb fb ra fa]
def pEq2 (u v : PV) : Option PV := match u, v with
  | .dI ks, .dI ls => if (ks.all fun p => flatP p.2) && (ls.all fun p => flatP p.2) then some (.bl (dEqB ks ls)) else none
  | u, v => pEq u v
def pNe2 (u v : PV) : Option PV := match u, v with
  | .dI ks, .dI ls => if (ks.all fun p => flatP p.2) && (ls.all fun p => flatP p.2) then some (.bl (!dEqB ks ls)) else none
  | u, v => pNeK u v
def rEqX (K : PySem.W.Frag) : R2 := fun x y H Q => rEqD K x y H Q ∨ rEqDI x y H Q
def rNeX (K : PySem.W.Frag) : R2 := fun x y H Q => rNeD K x y H Q ∨ rNeDI x y H Q
theorem o_eq2 {X : Cx} (hu : X.A.units + 64 < cLine) : OpR X (compareOp .Eq) (rEqX X.K) := (op_eqD hu).or (op_eqDI (by omega))
theorem o_ne2 {X : Cx} (hu : X.A.units + 64 < cLine) : OpR X (compareOp .NotEq) (rNeX X.K) := (op_neD hu).or (op_neDI (by omega))
theorem s_eq2 : Op2 K pEq2 (rEqX K) := by
  intro C F H ρ x y u v z Q hF hx hy e h
  have old : pEq u v = some z → rEqX K x y H Q := fun e => .inl (s_eq C F H ρ x y u v z Q hF hx hy e h)
  cases u with
  | dI ks =>
    cases v with
    | dI ls =>
      have e : (if (ks.all fun p => flatP p.2) && (ls.all fun p => flatP p.2) then some (PV.bl (dEqB ks ls)) else none) = some z := e
      split at e
      · rename_i hf
        rw [Bool.and_eq_true] at hf
        cases e
        obtain ⟨a, kv, rfl, h1, r1⟩ := hx.dI hF
        obtain ⟨b, lv, rfl, h2, r2⟩ := hy.dI hF
        exact .inr ⟨a, b, kv, lv, rfl, rfl, h1, h2, r1.flat hf.1, r2.flat hf.2, by rw [deq_rep r1 r2 hf.1 hf.2]; exact h F H _ (Grow.refl hF) (.bl _)⟩
      · cases e
    | _ => exact old e
  | _ => exact old e
theorem s_ne2 : Op2 K pNe2 (rNeX K) := by
  intro C F H ρ x y u v z Q hF hx hy e h
  have old : pNeK u v = some z → rNeX K x y H Q := fun e => .inl (s_neK C F H ρ x y u v z Q hF hx hy e h)
  cases u with
  | dI ks =>
    cases v with
    | dI ls =>
      have e : (if (ks.all fun p => flatP p.2) && (ls.all fun p => flatP p.2) then some (PV.bl (!dEqB ks ls)) else none) = some z := e
      split at e
      · rename_i hf
        rw [Bool.and_eq_true] at hf
        cases e
        obtain ⟨a, kv, rfl, h1, r1⟩ := hx.dI hF
        obtain ⟨b, lv, rfl, h2, r2⟩ := hy.dI hF
        exact .inr ⟨a, b, kv, lv, rfl, rfl, h1, h2, r1.flat hf.1, r2.flat hf.2, by rw [deq_rep r1 r2 hf.1 hf.2]; exact h F H _ (Grow.refl hF) (.bl _)⟩
      · cases e
    | _ => exact old e
  | _ => exact old e
end
end Hw

set_option maxRecDepth 100000
set_option maxHeartbeats 4000000
namespace Hw
open PySem PySem.Spec L2 PyProof.Rows
/-! ### t >= u, tuples of ints -/
theorem firstLt_map (e r : Nat → Bool) (fin : Bool) (f : Nat → Nat) : ∀ l : List Nat, SeqAt.firstLt e r fin (l.map f) = SeqAt.firstLt (fun j => e (f j)) (fun j => r (f j)) fin l
  | [] => rfl
  | j :: t => by
    have ih := firstLt_map e r fin f t
    show (if e (f j) = true then SeqAt.firstLt e r fin (t.map f) else r (f j)) = (if e (f j) = true then SeqAt.firstLt (fun j => e (f j)) (fun j => r (f j)) fin t else r (f j))
    rw [ih]
theorem ge_lex : ∀ (ns ms : List Int), SeqAt.firstLt (fun j => decide (ns.getD j 0 = ms.getD j 0)) (fun j => decide (ms.getD j 0 ≤ ns.getD j 0)) (decide (ns.length ≥ ms.length)) (List.range (min ns.length ms.length)) = !HT.lexLt ns ms
  | [], [] => rfl
  | [], m :: ms => by simp [HT.lexLt, SeqAt.firstLt]
  | n :: ns, [] => by simp [HT.lexLt, SeqAt.firstLt]
  | n :: ns, m :: ms => by
    have ih := ge_lex ns ms
    have e1 : min (n :: ns).length (m :: ms).length = min ns.length ms.length + 1 := by simp [Nat.succ_min_succ]
    rw [e1, List.range_succ_eq_map]
    show (if decide (n = m) = true then SeqAt.firstLt _ _ _ ((List.range (min ns.length ms.length)).map Nat.succ) else decide (m ≤ n)) = _
    rw [firstLt_map]
    have e2 : decide ((n :: ns).length ≥ (m :: ms).length) = decide (ns.length ≥ ms.length) := by simp
    rw [e2]
    have e3 : SeqAt.firstLt (fun j => decide ((n :: ns).getD (Nat.succ j) 0 = (m :: ms).getD (Nat.succ j) 0)) (fun j => decide ((m :: ms).getD (Nat.succ j) 0 ≤ (n :: ns).getD (Nat.succ j) 0)) (decide (ns.length ≥ ms.length)) (List.range (min ns.length ms.length)) = !HT.lexLt ns ms := by
      rw [← ih]; rfl
    rw [e3, HT.lexLt_cons]
    by_cases h : n = m
    · simp [h]
    · simp only [h, decide_false, Bool.false_eq_true, if_false]
      by_cases h2 : n < m
      · rw [decide_eq_true h2, decide_eq_false (by omega)]; rfl
      · rw [decide_eq_false h2, decide_eq_true (by omega)]; rfl
def rGeT (K : PySem.W.Frag) : R2 := fun x y H Q => ∃ (a b : Addr) (ns ms : List Int), x = .ref a ∧ y = .ref b ∧ SqT K H a (ns.map V.int) ∧ SqT K H b (ms.map V.int) ∧ Q (.bl (!HT.lexLt ns ms)) H
theorem op_geT {X : Cx} (hu : X.A.units < cLine) : OpR X (compareOp .GtE) (rGeT X.K) := by
  intro pins s σ H x y v u Q I rx ry h
  obtain ⟨a, b, ns, ms, rfl, rfl, ha, hb, q⟩ := h
  cases rx
  cases ry
  obtain ⟨its, r1, p1, _⟩ := I.tuple ha
  obtain ⟨its2, r2, p2, _⟩ := I.tuple hb
  have i1 : IntsAre its ns := Vals.ints r1
  have i2 : IntsAre its2 ms := Vals.ints r2
  have e1 : its.toArray.size = ns.length := by rw [List.size_toArray]; exact i1.length
  have e2 : its2.toArray.size = ms.length := by rw [List.size_toArray]; exact i2.length
  have at1 : ∀ j (h1 : j < its.toArray.size), ∃ t, its.toArray[j] = .int (ns.getD j 0) t := fun j h1 => PyProof.Rows.IntsAre.int_at i1 _ _ (by simp at h1; simp [h1])
  have at2 : ∀ j (h1 : j < its2.toArray.size), ∃ t, its2.toArray[j] = .int (ms.getD j 0) t := fun j h1 => PyProof.Rows.IntsAre.int_at i2 _ _ (by simp at h1; simp [h1])
  have R := SeqAt.RcOp.tuples_ge (A := X.A) (s := s) (e := fun j => decide (ns.getD j 0 = ms.getD j 0)) (r := fun j => decide (ms.getD j 0 ≤ ns.getD j 0)) p1 p2 hu (fun j h1 h2 => by
    obtain ⟨t, et⟩ := at1 j h1
    obtain ⟨t', et'⟩ := at2 j h2
    rw [et, et']
    have z : (ns.getD j 0 == ms.getD j 0) = decide (ns.getD j 0 = ms.getD j 0) := by
      by_cases q : ns.getD j 0 = ms.getD j 0
      · rw [decide_eq_true q]; exact beq_iff_eq.mpr q
      · rw [decide_eq_false q]; exact beq_eq_false_iff_ne.mpr q
    rw [← z]
    exact SeqAt.EqAt.int_int _ _ _ _) (fun j h1 h2 _ => by
    obtain ⟨t, et⟩ := at1 j h1
    obtain ⟨t', et'⟩ := at2 j h2
    rw [et, et']
    exact fun prog w E Q h => ge_int h)
  rw [e1, e2, ge_lex] at R
  have z : wpAny (model X.prog X.w) X.A (compareOp .GtE (.ref a) (.ref b)) (EP X pins σ Q) X.xe s := R X.prog X.w X.xe (EP X pins σ Q) ⟨.bl _, H, I, rfl, q⟩
  exact z
/-- the ints of a list of ints -/
def intsOf : List PV → Option (List Int)
  | [] => some []
  | .int i :: r => (intsOf r).map fun s => i :: s
  | _ => none
theorem intsOf_some : ∀ {xs : List PV} {ns : List Int}, intsOf xs = some ns → xs = ns.map .int
  | [], ns, h => by cases h; rfl
  | x :: r, ns, h => by
    cases x with
    | int i =>
      obtain ⟨s, h1, rfl⟩ := Option.map_eq_some_iff.mp (show (intsOf r).map (fun s => i :: s) = some ns from h)
      rw [intsOf_some h1] <;> rfl
    | _ => cases h
theorem intsOf_map : ∀ ns : List Int, intsOf (ns.map .int) = some ns
  | [] => rfl
  | n :: ns => by show (intsOf (ns.map .int)).map _ = _; rw [intsOf_map ns]; rfl
def pGe2 (u v : PV) : Option PV := match u, v with
  | .tup xs, .tup ys => match intsOf xs, intsOf ys with
    | some ns, some ms => some (.bl (!HT.lexLt ns ms))
    | _, _ => none
  | u, v => pGe u v
def pLt2 (u v : PV) : Option PV := match u, v with
  | .tup xs, .tup ys => match intsOf xs, intsOf ys with
    | some ns, some ms => some (.bl (HT.lexLt ns ms))
    | _, _ => none
  | u, v => pLt u v
section
variable {K : PySem.W.Frag} {C : Kx → Addr} {F H : Hp} {ρ : List Addr}
def rGeX (K : PySem.W.Frag) : R2 := fun x y H Q => rI0 (fun i j => .bl (decide (j ≤ i))) x y H Q ∨ rGeT K x y H Q
theorem o_ge2 {X : Cx} (hu : X.A.units < cLine) : OpR X (compareOp .GtE) (rGeX X.K) := op_ge.or (op_geT hu)
def rLtX (K : PySem.W.Frag) : R2 := fun x y H Q => rI0 (fun i j => .bl (decide (i < j))) x y H Q ∨ rLtT K x y H Q
theorem o_lt2 {X : Cx} (hu : X.A.units < cLine) : OpR X (compareOp .Lt) (rLtX X.K) := op_lt.or (op_ltT hu)
theorem s_ge2 : Op2 K pGe2 (rGeX K) := by
  intro C F H ρ x y u v z Q hF hx hy e h
  have old : pGe u v = some z → rGeX K x y H Q := fun e => .inl (s_ge C F H ρ x y u v z Q hF hx hy e h)
  cases u with
  | tup xs =>
    cases v with
    | tup ys =>
      have e : (match intsOf xs, intsOf ys with
        | some ns, some ms => some (PV.bl (!HT.lexLt ns ms))
        | _, _ => none) = some z := e
      split at e
      · rename_i ns ms h1 h2
        cases e
        rw [intsOf_some h1] at hx
        rw [intsOf_some h2] at hy
        obtain ⟨a, vs, rfl, q1, r1⟩ := hx.tup
        obtain ⟨b, ws, rfl, q2, r2⟩ := hy.tup
        rw [r1.ints_inv] at q1
        rw [r2.ints_inv] at q2
        exact .inr ⟨a, b, ns, ms, rfl, rfl, SqT.le hF q1, SqT.le hF q2, h F H _ (Grow.refl hF) (.bl _)⟩
      · cases e
    | _ => exact old e
  | _ => exact old e
theorem s_lt2 : Op2 K pLt2 (rLtX K) := by
  intro C F H ρ x y u v z Q hF hx hy e h
  have old : pLt u v = some z → rLtX K x y H Q := fun e => .inl (s_lt C F H ρ x y u v z Q hF hx hy e h)
  cases u with
  | tup xs =>
    cases v with
    | tup ys =>
      have e : (match intsOf xs, intsOf ys with
        | some ns, some ms => some (PV.bl (HT.lexLt ns ms))
        | _, _ => none) = some z := e
      split at e
      · rename_i ns ms h1 h2
        cases e
        rw [intsOf_some h1] at hx
        rw [intsOf_some h2] at hy
        obtain ⟨a, vs, rfl, q1, r1⟩ := hx.tup
        obtain ⟨b, ws, rfl, q2, r2⟩ := hy.tup
        rw [r1.ints_inv] at q1
        rw [r2.ints_inv] at q2
        exact .inr ⟨a, b, ns, ms, rfl, rfl, SqT.le hF q1, SqT.le hF q2, h F H _ (Grow.refl hF) (.bl _)⟩
      · cases e
    | _ => exact old e
  | _ => exact old e
/-! ### max, min of a list of ints -/
def maxL : List Int → Int
  | [] => 0
  | [a] => a
  | a :: r => if maxL r > a then maxL r else a
def minL : List Int → Int
  | [] => 0
  | [a] => a
  | a :: r => if minL r < a then minL r else a
theorem maxL_spec : ∀ (l : List Int), l ≠ [] → maxL l ∈ l ∧ ∀ y ∈ l, y ≤ maxL l
  | [a], _ => by simp [maxL]
  | a :: b :: r, _ => by
    obtain ⟨h1, h2⟩ := maxL_spec (b :: r) (by simp)
    show (if maxL (b :: r) > a then maxL (b :: r) else a) ∈ _ ∧ ∀ y ∈ a :: b :: r, y ≤ (if maxL (b :: r) > a then maxL (b :: r) else a)
    split
    · exact ⟨List.mem_cons_of_mem _ h1, fun y hy => by rcases List.mem_cons.mp hy with rfl | hy; · omega
                                                       · exact h2 y hy⟩
    · exact ⟨List.mem_cons_self, fun y hy => by rcases List.mem_cons.mp hy with rfl | hy; · omega
                                                · have := h2 y hy; omega⟩
theorem minL_spec : ∀ (l : List Int), l ≠ [] → minL l ∈ l ∧ ∀ y ∈ l, minL l ≤ y
  | [a], _ => by simp [minL]
  | a :: b :: r, _ => by
    obtain ⟨h1, h2⟩ := minL_spec (b :: r) (by simp)
    show (if minL (b :: r) < a then minL (b :: r) else a) ∈ _ ∧ ∀ y ∈ a :: b :: r, (if minL (b :: r) < a then minL (b :: r) else a) ≤ y
    split
    · exact ⟨List.mem_cons_of_mem _ h1, fun y hy => by rcases List.mem_cons.mp hy with rfl | hy; · omega
                                                       · exact h2 y hy⟩
    · exact ⟨List.mem_cons_self, fun y hy => by rcases List.mem_cons.mp hy with rfl | hy; · omega
                                                · have := h2 y hy; omega⟩
def pMaxL : PV → Option PV
  | .lst xs => match intsOf xs with
    | some (a :: r) => some (.int (maxL (a :: r)))
    | _ => none
  | _ => none
def pMinL : PV → Option PV
  | .lst xs => match intsOf xs with
    | some (a :: r) => some (.int (minL (a :: r)))
    | _ => none
  | _ => none
def pSumL : PV → Option PV
  | .lst xs => match intsOf xs with
    | some ns => some (.int ns.sum)
    | _ => none
  | _ => none
theorem seen_ints {x : V} {xs : List PV} {ns : List Int} (hF : Le F H) (hx : Seen K C F ρ H x (.lst xs)) (h : intsOf xs = some ns) : ∃ a, x = .ref a ∧ SqL K H a (ns.map V.int) := by
  rw [intsOf_some h] at hx
  obtain ⟨a, vs, rfl, q1, r1⟩ := hx.lst hF
  rw [r1.ints_inv] at q1
  exact ⟨a, rfl, .inl q1⟩
theorem s_maxL : Op1 K pMaxL fun x H Q => rMax K [x] H Q := by
  intro C F H ρ x u z Q hF hx e h
  cases u with
  | lst xs =>
    unfold pMaxL at e
    dsimp only at e
    split at e
    · rename_i b r h1
      cases e
      obtain ⟨a, rfl, q⟩ := seen_ints hF hx h1
      refine ⟨a, _, rfl, q, by simp, fun m hm hy => ?_⟩
      obtain ⟨z1, z2⟩ := maxL_spec (b :: r) (by simp)
      have e : m = maxL (b :: r) := Int.le_antisymm (z2 m hm) (hy _ z1)
      rw [e]
      exact h F H _ (Grow.refl hF) (.int _)
    · cases e
  | _ => cases e
theorem s_minL : Op1 K pMinL fun x H Q => rMin K [x] H Q := by
  intro C F H ρ x u z Q hF hx e h
  cases u with
  | lst xs =>
    unfold pMinL at e
    dsimp only at e
    split at e
    · rename_i b r h1
      cases e
      obtain ⟨a, rfl, q⟩ := seen_ints hF hx h1
      refine ⟨a, _, rfl, q, by simp, fun m hm hy => ?_⟩
      obtain ⟨z1, z2⟩ := minL_spec (b :: r) (by simp)
      have e : m = minL (b :: r) := Int.le_antisymm (hy _ z1) (z2 m hm)
      rw [e]
      exact h F H _ (Grow.refl hF) (.int _)
    · cases e
  | _ => cases e
theorem s_sumL : Op1 K pSumL fun x H Q => rSum K [x] H Q := by
  intro C F H ρ x u z Q hF hx e h
  cases u with
  | lst xs =>
    unfold pSumL at e
    dsimp only at e
    split at e
    · rename_i ns h1
      cases e
      obtain ⟨a, rfl, q⟩ := seen_ints hF hx h1
      exact ⟨a, _, rfl, q, h F H _ (Grow.refl hF) (.int _)⟩
    · cases e
  | _ => cases e
end
end Hw

set_option maxRecDepth 100000
set_option maxHeartbeats 4000000
namespace Hw
open PySem PySem.Spec L2 PyProof.Rows
/-! ### sorted -/
section
variable {α : Type} (lt : α → α → Bool)
def insS (x : α) : List α → List α
  | [] => [x]
  | y :: r => if lt y x then y :: insS x r else x :: y :: r
def srt : List α → List α
  | [] => []
  | x :: r => insS lt x (srt r)
/-- a strict order without equals -/
structure TotO : Prop where
  asym : ∀ x y, lt x y = true → lt y x = false
  tot : ∀ x y, lt x y = false → lt y x = false → x = y
  tr : ∀ x y z, lt x y = true → lt y z = true → lt x z = true
variable {lt}
theorem insS_perm (x : α) : ∀ l : List α, (insS lt x l).Perm (x :: l)
  | [] => .refl _
  | y :: r => by
    unfold insS
    split
    · exact ((insS_perm x r).cons y).trans (.swap x y r)
    · exact .refl _
theorem srt_perm : ∀ l : List α, (srt lt l).Perm l
  | [] => .refl _
  | x :: r => (insS_perm x _).trans ((srt_perm r).cons x)
theorem insS_srtd (O : TotO lt) (x : α) : ∀ l : List α, SrtO.Srtd lt l → SrtO.Srtd lt (insS lt x l)
  | [], _ => List.pairwise_singleton _ _
  | y :: r, h => by
    have hr := List.pairwise_cons.mp h
    unfold insS
    split
    · rename_i hy
      refine List.pairwise_cons.mpr ⟨fun z hz => ?_, insS_srtd O x r hr.2⟩
      rcases List.mem_cons.mp ((insS_perm x r).mem_iff.mp hz) with rfl | hz
      · exact O.asym _ _ hy
      · exact hr.1 z hz
    · rename_i hy
      have hy : lt y x = false := by simpa using hy
      refine List.pairwise_cons.mpr ⟨fun z hz => ?_, h⟩
      rcases List.mem_cons.mp hz with rfl | hz
      · exact hy
      · cases q : lt z x with
        | false => rfl
        | true =>
          have h1 := hr.1 z hz
          cases q2 : lt x y with
          | false =>
            have := O.tot _ _ q2 hy
            subst this
            rw [h1] at q; cases q
          | true =>
            have := O.tr _ _ _ q q2
            rw [h1] at this; cases this
theorem srt_srtd (O : TotO lt) : ∀ l : List α, SrtO.Srtd lt (srt lt l)
  | [] => List.Pairwise.nil
  | x :: r => insS_srtd O x _ (srt_srtd O r)
theorem srt_uniq (O : TotO lt) : ∀ {l m : List α}, SrtO.Srtd lt l → SrtO.Srtd lt m → l.Perm m → l = m
  | [], m, _, _, h => h.nil_eq
  | x :: l, [], _, _, h => h.eq_nil
  | x :: l, y :: m, h1, h2, h => by
    have a := List.pairwise_cons.mp h1
    have b := List.pairwise_cons.mp h2
    have e : x = y := by
      rcases List.mem_cons.mp (h.mem_iff.mp List.mem_cons_self) with e | hx
      · exact e
      · rcases List.mem_cons.mp (h.mem_iff.mpr (List.mem_cons_self (a := y) (l := m))) with e | hy
        · exact e.symm
        · exact O.tot _ _ (b.1 x hx) (a.1 y hy)
    subst e
    rw [srt_uniq O a.2 b.2 h.cons_inv]
theorem srt_of (O : TotO lt) {l m : List α} (h : SrtO.Srtd lt l) (hp : l.Perm m) : l = srt lt m := srt_uniq O h (srt_srtd O m) (hp.trans (srt_perm m).symm)
end
def ltI (a b : Int) : Bool := decide (a < b)
theorem totI : TotO ltI := ⟨fun x y h => by simp [ltI] at *; omega, fun x y h1 h2 => by simp [ltI] at *; omega, fun x y z h1 h2 => by simp [ltI] at *; omega⟩
theorem srtI_of {l m : List Int} (h : l.Pairwise (· ≤ ·)) (hp : l.Perm m) : l = srt ltI m := srt_of totI (h.imp fun {a b} q => by simp [ltI]; omega) hp
theorem totP : TotO SrtO.lexB := by
  refine ⟨fun x y h => ?_, fun x y h1 h2 => ?_, fun x y z h1 h2 => ?_⟩
  · have a := SrtO.lexB_iff.mp h
    exact SrtO.lexB_no.mpr (by omega)
  · have a := SrtO.lexB_no.mp h1
    have b := SrtO.lexB_no.mp h2
    exact Prod.ext (by omega) (by omega)
  · have a := SrtO.lexB_iff.mp h1
    have b := SrtO.lexB_iff.mp h2
    exact SrtO.lexB_iff.mpr (by omega)
/-- a list of pairs of ints -/
def ePr (p : Int × Int) : PV := .tup [.int p.1, .int p.2]
def prsOf : List PV → Option (List (Int × Int))
  | [] => some []
  | .tup [.int i, .int j] :: r => (prsOf r).map fun s => (i, j) :: s
  | _ => none
theorem prsOf_some : ∀ {xs : List PV} {ns : List (Int × Int)}, prsOf xs = some ns → xs = ns.map ePr
  | [], ns, h => by cases h; rfl
  | x :: r, ns, h => by
    unfold prsOf at h
    split at h
    · rename_i e; cases e
    · rename_i i j r' e
      cases e
      obtain ⟨s, h1, rfl⟩ := Option.map_eq_some_iff.mp h
      rw [prsOf_some h1] <;> rfl
    · cases h
theorem prsOf_map : ∀ ns : List (Int × Int), prsOf (ns.map ePr) = some ns
  | [] => rfl
  | n :: ns => by show (prsOf (ns.map ePr)).map _ = _; rw [prsOf_map ns]; rfl
def pSorted : PV → Option PV
  | .lst xs => match intsOf xs with
    | some ns => some (.lst ((srt ltI ns).map .int))
    | none => match prsOf xs with
      | some ps => some (.lst ((srt SrtO.lexB ps).map ePr))
      | none => none
  | .dI kvs => if kvs.length < 64 then some (.lst ((srt ltI (kvs.map (·.1))).map .int)) else none
  | _ => none
inductive Prs (K : PySem.W.Frag) (H : Hp) : List V → List (Int × Int) → Prop
  | nil : Prs K H [] []
  | cons {t : Addr} {p : Int × Int} {xs : List V} {ps : List (Int × Int)} : SqT K H t [.int p.1, .int p.2] → Prs K H xs ps → Prs K H (.ref t :: xs) (p :: ps)
theorem Prs.mem {K : PySem.W.Frag} {H : Hp} : ∀ {xs : List V} {ps : List (Int × Int)}, Prs K H xs ps → ∀ x ∈ xs, ∃ t p, x = .ref t ∧ SqT K H t [.int p.1, .int p.2] ∧ p ∈ ps
  | _, _, .nil, x, h => by cases h
  | _, _, .cons r s, x, h => by
    rcases List.mem_cons.mp h with rfl | h
    · exact ⟨_, _, rfl, r, by simp⟩
    · obtain ⟨t, p, e, q, m⟩ := s.mem x h
      exact ⟨t, p, e, q, by simp [m]⟩
def rSortedPS (K : PySem.W.Frag) : List V → Hp → VK → Prop := fun vs H Q => ∃ (a : Addr) (xs : List V) (ps : List (Int × Int)), vs = [V.ref a] ∧ SqL K H a xs ∧ Prs K H xs ps ∧
  ∀ (zs : List (V × (Int × Int))) p, (∀ z ∈ zs, z ∈ xs.zip ps) → zs.map (·.2) = srt SrtO.lexB ps → H p = none → Q (.ref p) (upd H p (.lst (zs.map (·.1))))
section
variable {X : Cx}
open Classical in
theorem cr_sortedPS : CallR X (.builtin "sorted") (rSortedPS X.K) := by
  intro pins s σ H vs us Q I r h
  obtain ⟨a, xs, ps, rfl, hs, hx, q⟩ := h
  obtain ⟨its, rv, hl, hz⟩ := I.list hs
  obtain ⟨u, rfl, ru⟩ := vals1 r
  obtain rfl : u = Value.ref a := ru
  let k : V → Int × Int := fun x => if h : ∃ p : Int × Int, ∃ t, x = V.ref t ∧ SqT X.K H t [.int p.1, .int p.2] then Classical.choose h else (0, 0)
  have kOk : ∀ t (p : Int × Int), SqT X.K H t [.int p.1, .int p.2] → k (.ref t) = p := fun t p hp => by
    have hex : ∃ p : Int × Int, ∃ t', V.ref t = V.ref t' ∧ SqT X.K H t' [.int p.1, .int p.2] := ⟨p, t, rfl, hp⟩
    have e : k (.ref t) = Classical.choose hex := dif_pos hex
    obtain ⟨t', e1, h1⟩ := Classical.choose_spec hex
    cases e1
    have := I.tuple_inj h1 hp
    rw [e]
    simp only [List.cons.injEq, V.int.injEq, and_true] at this
    exact Prod.ext this.1 this.2
  obtain ⟨e1, e2⟩ := refs_back rv fun x m => by
    obtain ⟨t, p, e, _⟩ := hx.mem x m
    exact ⟨t, e⟩
  refine SrtO.sorted_pairsO (k := fun u => k (backV u)) hl.isList (by rw [← rv.length]; exact hz) (fun v hv => ?_) fun h' d out h1 h2 kp hd hn => ?_
  · obtain ⟨t, rfl⟩ := e2 v hv
    have hm : V.ref t ∈ xs := by rw [e1]; exact List.mem_map.mpr ⟨_, hv, rfl⟩
    obtain ⟨t', p, e, ht, _⟩ := hx.mem _ hm
    cases e
    obtain ⟨its2, r2, ⟨o, ho, hc, n, hd⟩, _⟩ := I.tuple ht
    obtain ⟨u1, u2, rfl, ri, rj⟩ := vals2 r2
    obtain ⟨t1, rfl⟩ := ri
    obtain ⟨t2, rfl⟩ := rj
    have ek : k (backV (.ref t)) = p := kOk t p ht

    rw [ek]
    exact ⟨t, o, t1, t2, n, rfl, ho, hc, hd⟩
  · have h3 : ∀ u ∈ out, ∃ a, u = Value.ref a := fun u hu => e2 u (h2.perm.mem_iff.mp hu)
    obtain ⟨n, hn⟩ := hn
    have hb : SrtO.Stb (ltP k) (out.map backV) xs := by
      rw [e1]
      exact SrtO.Stb.map (ltP_swo k) backV h2
    have hso : SrtO.Srtd (ltP k) (out.map backV) := SrtO.srtd_map h1
    have hps : xs.map k = ps := by
      have go : ∀ {xs : List V} {ps : List (Int × Int)}, Prs X.K H xs ps → xs.map k = ps := fun {xs ps} h => by
        induction h with
        | nil => rfl
        | cons r s ih => rw [List.map_cons, ih, kOk _ _ r]
      exact go hx
    have hso2 : SrtO.Srtd SrtO.lexB ((out.map backV).map k) := by
      have : ∀ l : List V, SrtO.Srtd (ltP k) l → SrtO.Srtd SrtO.lexB (l.map k) := fun l h => List.pairwise_map.mpr h
      exact this _ hso
    have hpm : ((out.map backV).map k).Perm ps := by rw [← hps]; exact hb.perm.map k
    have hz1 : ((out.map backV).map fun y => (y, k y)).map (·.1) = out.map backV := by rw [List.map_map]; exact List.map_id _
    have hz2 : ((out.map backV).map fun y => (y, k y)).map (·.2) = srt SrtO.lexB ps := by
      rw [List.map_map]
      exact srt_of totP hso2 hpm
    have hz3 : ∀ z ∈ (out.map backV).map fun y => (y, k y), z ∈ xs.zip ps := fun z hz => by
      obtain ⟨y, hy, rfl⟩ := List.mem_map.mp hz
      have hy := hb.perm.mem_iff.mp hy
      rw [← hps]
      have : xs.zip (xs.map k) = xs.map fun y => (y, k y) := by
        have go : ∀ l : List V, l.zip (l.map k) = l.map fun y => (y, k y) := fun l => by
          induction l with
          | nil => rfl
          | cons a l ih => rw [List.map_cons, List.zip_cons_cons, ih, List.map_cons]
        exact go xs
      rw [this]
      exact List.mem_map.mpr ⟨y, hy, rfl⟩
    have q := q _ d hz3 hz2 (I.hok.fresh hd)
    rw [hz1] at q
    refine ⟨.ref d, upd H d (.lst (out.map backV)), I.laid (t' := s.toks) kp hd ⟨?_, out, n, vals_back h3, hn⟩, rfl, q⟩
    rw [hb.perm.length_eq]
    exact hz
end
section
variable {K : PySem.W.Frag} {C : Kx → Addr} {F H : Hp} {ρ : List Addr}
def rSorted1 (K : PySem.W.Frag) : List V → Hp → VK → Prop := fun vs H Q => (rSortedI K vs H Q ∨ rSortedPS K vs H Q) ∨ (∃ (a : Addr) (kvs : List (Key × V)) (ks : List Int), vs = [.ref a] ∧ Rd H a (.dK kvs) ∧ kvs.map (·.1) = ks.map Sum.inl ∧ ks.length < 64 ∧ ∀ (ys : List Int) (p : Addr), ys.Perm ks → ys.Pairwise (· ≤ ·) → H p = none → Q (.ref p) (upd H p (.lst (ys.map V.int))))
theorem cr_sorted1 {X : Cx} (hc : X.calm = true) : CallR X (.builtin "sorted") (rSorted1 X.K) := (cr_sortedI.or cr_sortedPS).or (call_sortedDI hc)
theorem rep_prs {vs : List V} {ps : List (Int × Int)} : RepL K C F ρ vs (ps.map ePr) → Prs K F vs ps := by
  induction ps generalizing vs with
  | nil => intro r; cases r; exact .nil
  | cons p ps ih =>
    intro r
    cases r with
    | cons r1 r2 =>
      have r1 : Rep K C F ρ _ (.tup ([p.1, p.2].map .int)) := r1
      cases r1 with
      | tup q s => rw [s.ints_inv] at q; exact .cons q (ih r2)
theorem Prs.le {H' : Hp} (h : Le H H') {vs : List V} {ps : List (Int × Int)} (r : Prs K H vs ps) : Prs K H' vs ps := by
  induction r with
  | nil => exact .nil
  | cons a b ih => exact .cons (SqT.le h a) ih
theorem zip_rep {vs : List V} {ps : List (Int × Int)} (r : RepL K C F ρ vs (ps.map ePr)) : ∀ z ∈ vs.zip ps, Rep K C F ρ z.1 (ePr z.2) := by
  induction ps generalizing vs with
  | nil => intro z h; simp at h
  | cons p ps ih =>
    cases r with
    | cons r1 r2 =>
      intro z h
      rw [List.zip_cons_cons] at h
      rcases List.mem_cons.mp h with rfl | h
      · exact r1
      · exact ih r2 z h
theorem rep_zs : ∀ {zs : List (V × (Int × Int))}, (∀ z ∈ zs, Rep K C F ρ z.1 (ePr z.2)) → RepL K C F ρ (zs.map (·.1)) ((zs.map (·.2)).map ePr)
  | [], _ => .nil
  | z :: zs, h => .cons (h z (by simp)) (rep_zs fun z hz => h z (by simp [hz]))
theorem s_sorted : Op1 K pSorted fun x H Q => rSorted1 K [x] H Q := by
  intro C F H ρ x u z Q hF hx e h
  cases u with
  | lst xs =>
    unfold pSorted at e
    dsimp only at e
    split at e
    · rename_i ns h1
      cases e
      obtain ⟨a, rfl, q⟩ := seen_ints hF hx h1
      refine .inl (.inl ⟨a, ns, rfl, q, fun ns' p hp hs hn => ?_⟩)
      rw [srtI_of hs hp]
      exact h _ _ _ (Grow.one hF hn) (.lst (Rd.of upd_same) (RepL.ints _))
    · split at e
      · rename_i ps h1
        cases e
        rw [prsOf_some h1] at hx
        obtain ⟨a, vs, rfl, q1, r1⟩ := hx.lst hF
        refine .inl (.inr ⟨a, vs, ps, rfl, .inl q1, (rep_prs r1).le hF, fun zs p hz e hn => ?_⟩)
        have g := Grow.one (o := .lst (zs.map (·.1))) hF hn
        refine h _ _ _ g (.lst (Rd.of upd_same) (RepL.le g.ff (fun _ _ e => e) ?_))
        rw [← e]
        exact rep_zs fun z hz2 => zip_rep r1 z (hz z hz2)
      · cases e
  | dI kvs =>
    unfold pSorted at e
    dsimp only at e
    split at e
    · rename_i hl
      cases e
      obtain ⟨a, kv, rfl, h1, r1⟩ := hx.dI hF
      refine .inr ⟨a, kv, kvs.map (·.1), rfl, h1, ?_, by simpa using hl, fun ns' p hp hs hn => ?_⟩
      · rw [r1.keys, List.map_map]; rfl
      · rw [srtI_of hs hp]
        exact h _ _ _ (Grow.one hF hn) (.lst (Rd.of upd_same) (RepL.ints _))
    · cases e
  | _ => cases e
end
end Hw

set_option maxRecDepth 100000
set_option maxHeartbeats 4000000
namespace Hw
open PySem PySem.Spec L2 PyProof.Rows
theorem hu0 {k : Nat} {A : Around} (r : Room k A) : A.units < cLine := by have := r.un; omega
theorem hu1 {k : Nat} {A : Around} (r : Room k A) : A.units + 1 < cLine := by have := r.un; omega
/-! ### xs += ys, xs our own list -/
def tExt : TIp := fun x y H Q => ∃ l b xs zs, x = .ref l ∧ y = .ref b ∧ H l = some (.lst xs) ∧ Rd H b (.lst zs) ∧ xs.length + zs.length ≤ sizeLine ∧ Q (.ref l) (upd H l (.lst (xs ++ zs)))
section
variable {X : Cx} {C : Kx → Addr} {E : WX} {e : Expr} {pos : Pos} {K : PySem.W.Frag} {F H : Hp} {ρ : List Addr} {da : Ex}
theorem ip_ext : PIp X .Add tExt := by
  intro pins s σ H x y v u Q I rx ry h
  obtain ⟨l, b, xs, zs, rfl, rfl, hH, hB, hz, q⟩ := h
  cases rx
  cases ry
  obtain ⟨z, its, n, r, hl, e⟩ := I.lstM hH
  obtain ⟨z2, its2, n2, r2, hl2, e2⟩ := Inv.lstR I hB
  have hsz : its.toArray.size + its2.toArray.size ≤ sizeLine := by rw [List.size_toArray, List.size_toArray]; omega
  have hlong : ¬ (!its.toArray.isEmpty && Builtin.List.listTooLong (its.toArray.size + its2.toArray.size)) = true := by
    rw [notLongL hsz, Bool.and_false]
    exact Bool.false_ne_true
  refine iadd_road ⟨_, e, rfl⟩ ⟨_, e2, rfl⟩ (call_meets PySem.F.slot_list_iadd ⟨_, e, rfl⟩ PySem.F.entry_list_iadd (PySem.F.args_list_iadd_2 _ _)
    (AutoSeq1.list___iadd___list_list_0 l its.toArray n b its2.toArray n2 hlong (by rw [List.size_toArray]; omega) (by omega)) ⟨e, e2, ?_⟩)
  refine ⟨.ref l, _, I.lset (its' := its ++ its2) (t' := s.toks) hH e (by simp) (r.append r2) ?_, rfl, q⟩
  rw [List.length_append]
  omega
def sExt (i : Nat) (d : Ex) : Sm := fun env S => match env[i]? with
  | some (.own (.lst xs)) => (match d env S with
    | .ok (.lst ys) S => if xs.length ≤ 1000000 ∧ ys.length ≤ 1000000 then .nx (env.set i (.own (.lst (xs ++ ys)))) S else .bad
    | .ok _ _ => .bad
    | .ex c S => .ex c env S
    | .bad => .bad)
  | _ => .bad
theorem h_ext {i : Nat} {x : Str} {pos' : Pos} (hN : X.N.Nodup) (hi : X.N[i]? = some x) (hx : Loc X.env.scope x) (he : PE X e (rE X.K C E da)) (hf : X.fn x = true ∨ X.env.scope.names.lookup x = some .local := by first | exact .inl rfl | exact .inr rfl | assumption) :
    PS X (.AugAssign (.Name x pos') .Add e pos) (rS X.K C E (sExt i da)) := by
  refine (ps_aug hN hi hx he ip_ext hf).imp ?_
  rintro D σ H ⟨w, env, S, s, h⟩
  unfold sExt at h
  split at h
  · rename_i xs e1
    obtain ⟨q, z1, fr, _⟩ := own_at s e1
    refine ⟨.ref q, z1, w, env, S, s, ?_⟩
    cases hd : da env S with
    | ex c S1 => rw [hd] at h; exact fun w1 H1 le s1 => h w1 H1 σ le s1
    | bad => rw [hd] at h; exact h.elim
    | ok v S1 =>
      rw [hd] at h
      intro w1 H1 le s1 y ry
      cases v with
      | lst ys =>
        dsimp only at h
        split at h
        · rename_i hl
          obtain ⟨vs, g1, g2⟩ := own_same s1 e1 z1
          have ry : Rep X.K C w1.F w1.ρ y (.lst ys) := ry
          cases ry with
          | @lst b ws _ hb rb =>
            refine ⟨q, b, vs, ws, rfl, rfl, g1, Rd.le s1.f hb, by rw [g2.length, rb.length]; exact Nat.le_trans (Nat.add_le_add hl.1 hl.2) (by decide), ?_⟩
            show D.nx (σ.set i (some (.ref q))) _
            rw [set_same z1]
            exact h w1 _ σ le (s1.ownU e1 z1 ⟨_, upd_same, g2.append rb⟩)
        · exact h.elim
      | _ => exact h.elim
  · exact h.elim
end
end Hw

set_option maxRecDepth 100000
set_option maxHeartbeats 4000000
namespace Hw
open PySem PySem.Spec L2 PyProof.Rows
/-! ### enumerate(xs) -/
section
variable {X : Cx} {C : Kx → Addr} {E : WX} {e : Expr} {pos p tpos : Pos} {K : PySem.W.Frag} {w : Wd} {da : Plx} {elts : List Expr} {kk : Nat}
theorem enumL_get {xs : List PV} {i : Nat} {y : PV} (h : (enumL xs)[i]? = some y) : ∃ x, xs[i]? = some x ∧ y = .tup [.int (i : Nat), x] := by
  unfold enumL at h
  rw [List.getElem?_zipWith] at h
  by_cases hi : i < xs.length
  · rw [List.getElem?_range hi, List.getElem?_eq_getElem hi] at h
    simp only [Option.some.injEq] at h
    exact ⟨_, List.getElem?_eq_getElem hi, h.symm⟩
  · rw [List.getElem?_eq_none (l := List.range xs.length) (by simpa using hi)] at h
    cases h
theorem enumL_len (xs : List PV) : (enumL xs).length = xs.length := by simp [enumL]
theorem feed_en {a' : Addr} {xs : List PV} {vs : List V} (r : RepL K C w.F w.ρ vs xs) (hs : ∀ (w1 : Wd) (H1 : Hp), w.le w1 → Le w1.F H1 → Le w1.B H1 → SqL K H1 a' vs) : Feeds K C w (Ite K a') (enumL xs) := by
  intro w1 H1 le1 hf hb
  have q := hs w1 H1 le1 hf hb
  refine ⟨fun i y e => ?_, ⟨vs, q, by rw [enumL_len, r.length]; exact Nat.le_refl _⟩⟩
  obtain ⟨x, ex, rfl⟩ := enumL_get e
  obtain ⟨v, ev, rv⟩ := r.get ex
  refine ⟨⟨vs, v, q, ev⟩, fun z H2 h => ?_⟩
  obtain ⟨T, v', rfl, hT, rfl, hv⟩ := h
  have z := hv vs q
  rw [ev] at z
  cases z
  have g := Grow.one (o := .tup [.int (i : Nat), v]) hf hT
  exact ⟨_, g, .tup (SqT.of upd_same) (.cons (.int _) (.cons (Rep.le g.ff (fun _ _ e => e) (RepW.up le1 rv)) .nil))⟩
theorem i_en (hg : Gl X "enumerate") (hm : X.mg "enumerate" = none) (h : PE X e (rP X.K C E da)) (hs : starEach [e] X.env = [(false, eval e X.env)] := by rfl) : PI X (.Tuple elts kk tpos) (.Call (.Name "enumerate" p) [e] [] pos) (rIt X.K C E (iEn da)) := by
  refine (pi_enum hg hm (pa_cons h pa_nil hs) hs).imp ?_
  rintro σ H T ⟨w, env, S, s, h⟩
  unfold iEn at h
  refine ⟨w, env, S, s, h.bind.mono fun pl S1 w1 H1 le1 s1 h1 x rx => ?_⟩
  cases pl with
  | val y =>
    cases y with
    | lst xs =>
      have rx : Rep X.K C w1.F w1.ρ x (.lst xs) := rx
      cases rx with
      | lst q r => exact ⟨_, _, rfl, .inl (Rd.le s1.f q), h1 w1 H1 (Wd.le.refl _) s1 _ (feed_en r fun w2 H2 le f b => .inl (Rd.le (le.f.trans f) q))⟩
    | _ => exact h1.elim
  | _ => exact h1.elim
end
end Hw

set_option maxRecDepth 100000
set_option maxHeartbeats 4000000
namespace Hw
open PySem PySem.Spec L2 PyProof.Rows
/-! ### an expression that walks our own dict -/
def eLk (i : Nat) (d : Ex) : Ex := fun env S => match env[i]? with
  | some (.own x) => if isDk x then (d (env.set i (.lk x)) S).noex else .bad
  | _ => .bad
section
variable {X : Cx} {C : Kx → Addr} {E : WX} {e : Expr} {d : Ex}
theorem h_lkE {E' : WX} (i : Nat) (h : PE X e (rE X.K C E' d)) : PE X e (rE X.K C E (eLk i d)) := by
  refine (pe_lock h).imp ?_
  rintro σ H Q ⟨w, env, S, s, h⟩
  unfold eLk at h
  cases e0 : env[i]? with
  | none => rw [e0] at h; exact h.elim
  | some y =>
    rw [e0] at h
    cases y with
    | own x =>
      dsimp only at h
      split at h
      rotate_left
      · exact h.elim
      rename_i hx
      obtain ⟨a, u, hu, mu, hB, h1, hob, hl⟩ := s.lock e0 hx
      refine ⟨a, u, hu, mu, fun od => ⟨_, _, S, hl od, ?_⟩⟩
      have ilt := (List.getElem?_eq_some_iff.mp e0).1
      have e1 : (env.set i (.lk x))[i]? = some (.lk x) := List.getElem?_set_self ilt
      have back : (env.set i (.lk x)).set i (.own x) = env := by
        rw [List.set_set]
        refine List.ext_getElem? fun k => ?_
        by_cases hk : i = k
        · subst hk; rw [List.getElem?_set_self ilt, e0]
        · rw [List.getElem?_set_ne hk]
      cases hd : d (env.set i (.lk x)) S with
      | bad => rw [hd] at h; exact h.elim
      | ex c S2 => rw [hd] at h; exact h.elim
      | ok v S2 =>
        rw [hd] at h
        intro w2 H2 le s2 z rz
        obtain ⟨le', s3⟩ := s.relk hB le s2 e1
        obtain ⟨_, _, _, _, h2a, _⟩ := s.unlk hB le s2
        rw [back] at s3
        exact ⟨h2a, h _ _ le' s3 z rz⟩
    | un => exact h.elim
    | v x => exact h.elim
    | lk x => exact h.elim
end
end Hw

set_option maxRecDepth 100000
set_option maxHeartbeats 4000000
namespace Hw
open PySem PySem.Spec L2 PyProof.Rows
/-! ### which error it is -/
def kOne (k : Kx) : Kx → Bool := fun j => decide (j = k)
def kAny : Kx → Bool := fun _ => true
def kxs : List Kx := [.crowd, .folk, .beat, .row, .notes, .paper, .text, .none]
theorem kxs_mem (k : Kx) : k ∈ kxs := by cases k <;> decide
/-- what isinstance asks of the class D -/
def excCB (K : PySem.W.Frag) (D : Addr) : Bool :=
  He.eqO (PySem.W.findIn K (.ref D) "__getattribute__") (some (some (.builtin "BaseException.__getattribute__"))) &&
  (He.eqO (PySem.W.findIn K (.ref D) "__getattr__") (some none) &&
  (decide (PySem.W.subIn K (.ref D) (.type "BaseException") = some true) &&
  (PySem.W.hasDictIn K D &&
  (He.eqO (PySem.W.findIn K (.ref D) "__class__") (some (some (.builtin "object.__class__"))) &&
  (He.eqO (PySem.W.specialIn K (.builtin "object.__class__") "__get__") (some (some (.builtin "getset_descriptor.__get__"))) &&
  (decide (PySem.W.takesIn K (.builtin "object.__class__") = some true) &&
  decide (PySem.W.mroIn K D (.type "object") = some true)))))))
theorem excCB_ok {K : PySem.W.Frag} {D : Addr} (h : excCB K D = true) : ExcC K D := by
  unfold excCB at h
  simp only [Bool.and_eq_true, decide_eq_true_eq] at h
  obtain ⟨h1, h2, h3, h4, h5, h6, h7, h8⟩ := h
  exact ⟨He.eqO_ok h1, He.eqO_ok h2, h3, h4, He.eqO_ok h5, He.eqO_ok h6, h7, h8⟩
def excCA (K : PySem.W.Frag) (C : Kx → Addr) : Bool := kxs.all fun k => excCB K (C k)
theorem excCA_ok {K : PySem.W.Frag} {C : Kx → Addr} (h : excCA K C = true) (k : Kx) : ExcC K (C k) := excCB_ok (List.all_eq_true.mp h k (kxs_mem k))
def kitB (K : PySem.W.Frag) (C : Kx → Addr) (cv : Value) (f : Kx → Bool) : Bool := kxs.all fun k => decide (PySem.W.kitOne K (.ref (C k)) cv = some (f k))
theorem kitB_ok {K : PySem.W.Frag} {C : Kx → Addr} {cv : Value} {f : Kx → Bool} (h : kitB K C cv f = true) (k : Kx) : PySem.W.kitOne K (.ref (C k)) cv = some (f k) := of_decide_eq_true (List.all_eq_true.mp h k (kxs_mem k))
def exmB (K : PySem.W.Frag) (C : Kx → Addr) (cv : Value) : Bool := kxs.all fun k => decide (PySem.W.exmOne K (.ref (C k)) cv = some true)
theorem exmB_ok {K : PySem.W.Frag} {C : Kx → Addr} {cv : Value} (h : exmB K C cv = true) (k : Kx) : PySem.W.exmOne K (.ref (C k)) cv = some true := of_decide_eq_true (List.all_eq_true.mp h k (kxs_mem k))
section
variable {X : Cx} {C : Kx → Addr} {E : WX} {pos p p2 : Pos} {a : Expr} {da : Plx} {t : Str} {f : Kx → Bool} {a0 : Addr}
theorem h_isOwn (hC : ∀ k, ExcC X.K (C k)) (hk : ∀ k, PySem.W.kitOne X.K (.ref (C k)) (.ref a0) = some (f k)) (ht : X.mg t = some (.ref a0)) (hgt : Gl X t) (hg : Gl X "isinstance") (hm : X.mg "isinstance" = none) (ha : PE X a (rP X.K C E da)) (hd : (t == ("__debug__" : Str)) = false := by decide)
    (he : starEach [a, .Name t p2] X.env = [(false, eval a X.env), (false, eval (.Name t p2) X.env)] := by rfl) (he2 : starEach [.Name t p2] X.env = [(false, eval (.Name t p2) X.env)] := by rfl) :
    PE X (.Call (.Name "isinstance" p) [a, .Name t p2] [] pos) (rE X.K C E (eP1 (pIsEx f) da)) :=
  h_isEx (c := .ref a0) hC hk (fun u r => by cases r; rfl) (pe_glob hgt ht rfl hd) hg hm ha he he2
theorem h_isVE (hC : ∀ k, ExcC X.K (C k)) (hk : ∀ k, PySem.W.kitOne X.K (.ref (C k)) (.type "ValueError") = some (f k)) (ht : X.mg "ValueError" = none) (hgt : Gl X "ValueError") (hg : Gl X "isinstance") (hm : X.mg "isinstance" = none) (ha : PE X a (rP X.K C E da))
    (he : starEach [a, .Name "ValueError" p2] X.env = [(false, eval a X.env), (false, eval (.Name "ValueError" p2) X.env)] := by rfl) (he2 : starEach [.Name "ValueError" p2] X.env = [(false, eval (.Name "ValueError" p2) X.env)] := by rfl) :
    PE X (.Call (.Name "isinstance" p) [a, .Name "ValueError" p2] [] pos) (rE X.K C E (eP1 (pIsEx f) da)) :=
  h_isEx (c := .ty "ValueError") hC hk (fun u r => r) (pe_bltn (v := .ty "ValueError") hgt ht (by decide +kernel) rfl (by decide) (by decide)) hg hm ha he he2
end
end Hw

set_option maxRecDepth 100000
set_option maxHeartbeats 4000000
namespace Hw
open PySem PySem.Spec L2 PyProof.Rows
/-! ### bs.count(b), bs.index(b) -/
theorem vals_bls : ∀ {bs : List Bool} {us : List Value}, Vals (bs.map V.bl) us → us = bs.map Value.bool
  | [], _, .nil => rfl
  | b :: bs, u :: us, .cons r t => by
    have h : u = Value.bool b := r
    rw [h, vals_bls t]; rfl
def eqb (b : Bool) (v : Value) : Bool := match v with
  | .bool c => c == b
  | _ => false
def rCntB (K : PySem.W.Frag) : V → List V → Hp → VK → Prop := fun x xs H Q => ∃ (p : Addr) (bs : List Bool) (b : Bool), x = .ref p ∧ xs = [.bl b] ∧ SqL K H p (bs.map V.bl) ∧ Q (.int (bs.count b : Nat)) H
theorem bl_count (b : Bool) : ∀ bs : List Bool, (bs.map Value.bool).countP (eqU (.bl b)) = bs.count b
  | [] => rfl
  | c :: bs => by
    rw [List.map_cons, List.countP_cons, List.count_cons, bl_count b bs]
    have : eqU (.bl b) (Value.bool c) = (c == b) := by cases b <;> cases c <;> rfl
    rw [this]
theorem bl_flat : ∀ bs : List Bool, (bs.map V.bl).all flatV = true
  | [] => rfl
  | b :: bs => by rw [List.map_cons, List.all_cons, bl_flat bs]; rfl
theorem mt_cntB {X : Cx} : MtR X "list.count" (rCntB X.K) := by
  intro pins s σ H x xs v us Q I rx rxs h
  obtain ⟨p, bs, b, rfl, rfl, hs, q⟩ := h
  cases rx
  obtain ⟨u, rfl, ru⟩ := rxs.one
  obtain rfl : u = Value.bool b := ru
  obtain ⟨its, rv, ⟨⟨cls, dd, data, sl⟩, n, ho, hc, hdn, hd⟩, hlen⟩ := I.list hs
  simp only at hc hd
  subst hc hd
  refine call_meets PySem.F.slot_list_count ⟨_, ho, rfl⟩ PySem.F.entry_list_count (PySem.F.args_list_count_2 _ _)
    (SeqAt.list_countAt p its.toArray n dd sl (.bool b) (eqU (.bl b))) ⟨ho, fun y hy => mem_eqAt (x := .bl b) rfl rfl rv (bl_flat bs) y (by simpa using hy), ?_⟩
  have ec : its.toArray.toList.countP (eqU (.bl b)) = bs.count b := by rw [vals_bls rv]; exact bl_count b bs
  refine ⟨.int (bs.count b : Nat), H, I.tok _, ⟨s.toks, ?_⟩, q⟩
  show Value.int ((its.toArray.toList.countP (eqU (.bl b)) : Nat) : Int) s.toks = Value.int ((bs.count b : Nat) : Int) s.toks
  rw [ec]
def pCntB (b : Bool) : PV → Option PV
  | .lst xs => (blsOf xs).map fun bs => .int (bs.count b : Nat)
  | _ => none
def pIdxB (b : Bool) : PV → Option PV
  | .lst xs => match blsOf xs with
    | some bs => if b ∈ bs then some (.int (bs.idxOf b : Nat)) else none
    | none => none
  | _ => none
theorem idx_le {c : Bool} : ∀ (l : List Bool) (m : Nat), l[m]? = some c → l.idxOf c ≤ m
  | [], m, h => by simp at h
  | b :: l, 0, h => by simp at h; subst h; simp
  | b :: l, m + 1, h => by
    have ih := idx_le l m (by simpa using h)
    rw [List.idxOf_cons]
    cases (b == c) <;> simp <;> omega
section
variable {X : Cx} {C : Kx → Addr} {E : WX} {o : Expr} {apos cpos p : Pos} {b : Bool} {j : Nat} {da : Plx}
theorem h_cntB (ha : PE X o (rP X.K C E da)) (m : M1 X o "count" apos (.Constant (.bool b) j p) cpos) (hs : starEach [.Constant (.bool b) j p] X.env = (false, eval (.Constant (.bool b) j p) X.env) :: starEach [] X.env := by rfl) (hpl : (backTo cpos (starEach [] X.env)).any (·.1) = false := by rfl) :
    PE X (.Call (.Attribute o "count" apos) [.Constant (.bool b) j p] [] cpos) (rE X.K C E (eP1 (pCntB b) da)) := by
  refine (pe_bm PySem.F.plainAttrs_list PySem.F.slot_list_count PySem.F.type_list_count mt_cntB ha (pa_cons pe_bl pa_nil hs) m.base m.few m.line hs hpl).imp ?_
  rintro σ H Q ⟨w, env, S, s, h⟩
  unfold eP1 at h
  refine ⟨w, env, S, s, h.bind.mono fun pl S1 w1 H1 le1 s1 h1 x rx => ?_⟩
  split at h1
  · rename_i u e
    cases e2 : pCntB b u with
    | none => rw [e2] at h1; exact h1.elim
    | some z =>
      rw [e2] at h1
      cases u with
      | lst xs =>
        obtain ⟨a, vs, rfl, q1, r1⟩ := (rx.seen s1 e).lst s1.f
        unfold pCntB at e2
        cases q2 : blsOf xs with
        | none => simp [q2] at e2
        | some bs =>
          simp [q2] at e2
          rw [blsOf_some q2] at r1
          rw [r1.bls_inv] at q1
          subst e2
          exact ⟨.inl ⟨rfl, _, .inl q1⟩, a, bs, b, rfl, rfl, .inl q1, h1 w1 H1 (Wd.le.refl _) s1 _ (.int _)⟩
      | _ => cases e2
  · exact h1.elim
theorem h_idxB (ha : PE X o (rP X.K C E da)) (m : M1 X o "index" apos (.Constant (.bool b) j p) cpos) (hs : starEach [.Constant (.bool b) j p] X.env = (false, eval (.Constant (.bool b) j p) X.env) :: starEach [] X.env := by rfl) (hpl : (backTo cpos (starEach [] X.env)).any (·.1) = false := by rfl) :
    PE X (.Call (.Attribute o "index" apos) [.Constant (.bool b) j p] [] cpos) (rE X.K C E (eP1 (pIdxB b) da)) := by
  refine (pe_bm PySem.F.plainAttrs_list PySem.F.slot_list_index PySem.F.type_list_index mt_index ha (pa_cons pe_bl pa_nil hs) m.base m.few m.line hs hpl).imp ?_
  rintro σ H Q ⟨w, env, S, s, h⟩
  unfold eP1 at h
  refine ⟨w, env, S, s, h.bind.mono fun pl S1 w1 H1 le1 s1 h1 x rx => ?_⟩
  split at h1
  · rename_i u e
    cases e2 : pIdxB b u with
    | none => rw [e2] at h1; exact h1.elim
    | some z =>
      rw [e2] at h1
      cases u with
      | lst xs =>
        obtain ⟨a, vs, rfl, q1, r1⟩ := (rx.seen s1 e).lst s1.f
        unfold pIdxB at e2
        cases q2 : blsOf xs with
        | none => simp [q2] at e2
        | some bs =>
          simp only [q2] at e2
          split at e2
          rotate_left
          · cases e2
          rename_i hb
          rw [blsOf_some q2] at r1
          rw [r1.bls_inv] at q1
          cases e2
          have hlt := List.idxOf_lt_length_of_mem hb
          refine ⟨.inl ⟨rfl, _, .inl q1⟩, a, bs.map V.bl, .bl b, bs.idxOf b, .bl b, rfl, rfl, .inl q1, rfl, bl_flat bs, ?_, by cases b <;> rfl, fun m z' hm hz => ?_, h1 w1 H1 (Wd.le.refl _) s1 _ (.int _)⟩
          · rw [List.getElem?_map, List.getElem?_eq_getElem hlt, List.getElem_idxOf hlt]; rfl
          · rw [List.getElem?_map] at hz
            obtain ⟨c, hc, rfl⟩ := Option.map_eq_some_iff.mp hz
            have hne : c ≠ b := fun q => by
              subst q
              have := idx_le bs _ hc
              omega
            cases b <;> cases c <;> first | rfl | exact absurd rfl hne
      | _ => cases e2
  · exact h1.elim
end
end Hw

set_option maxRecDepth 100000
set_option maxHeartbeats 4000000
namespace Pg
open PySem PySem.Spec L2 Hw
def d_is_whole : Sm := sSeq (sRet (eAnd (eP1 (pIsi .int) (pN 0)) (eAnd (eNot (eP1 (pIsi .bool) (pN 0))) (eChain pLe pLe (eVar 1) (eVar 0) (eVar 2))))) (sNil)
def f_is_whole : Fn := runFn 3 d_is_whole
def d_is_stand : Sm := sSeq (sIf (eOr (eNot (eP1 (pIsi .tuple) (pN 0))) (eOr (eP2 pNeK (pA (eP1 pLen (pN 0))) (pA (eC (.int 3)))) (eNot (eCall f_is_whole (esCons (eP2 pIdx (pN 0) (pA (eC (.int 2)))) (esCons (eC (.int 0)) (esCons (eC (.int 3)) (esNil)))))))) (sSeq (sRet (eC (.bl false))) (sNil)) (sNil)) (sSeq (sRet (eP1 pAll (pA (eLC (iP (pA (eCut (pN 0) none (some (eC (.int 2)))))) [1] (tgN 1) (eYes) (eCall f_is_whole (esCons (eVar 1) (esCons (eOp1 pNeg (eC (.int 9))) (esCons (eC (.int 9)) (esNil))))))))) (sNil))
def f_is_stand : Fn := runFn 2 d_is_stand
def d_is_folk : Sm := sSeq (sIf (eOr (eNot (eP1 (pIsi .tuple) (pN 0))) (eNot (eP1 pAll (pA (eLC (iP (pN 0)) [3] (tgN 3) (eYes) (eCall f_is_whole (esCons (eVar 3) (esCons (eC (.int 0)) (esCons (eP2 pSub (pN 1) (pA (eC (.int 1)))) (esNil)))))))))) (sSeq (sRet (eC (.bl false))) (sNil)) (sNil)) (sSeq (sRet (eP1 pAll (pA (eLC (iR1 (eP2 pSub (pA (eP1 pLen (pN 0))) (pA (eC (.int 1))))) [2] (tgN 2) (eYes) (eP2 pLt (pA (eP2 pIdx (pN 0) (pN 2))) (pA (eP2 pIdx (pN 0) (pA (eP2 pAdd (pN 2) (pA (eC (.int 1)))))))))))) (sNil))
def f_is_folk : Fn := runFn 4 d_is_folk
def d_is_crowd : Sm := sSeq (sIf (eOr (eNot (eP1 (pIsi .tuple) (pN 0))) (eOr (eP2 pNeK (pA (eP1 pLen (pN 0))) (pA (eC (.int 3)))) (eNot (eCall f_is_whole (esCons (eP2 pIdx (pN 0) (pA (eC (.int 0)))) (esCons (eC (.int 0)) (esCons (eP2 pMul (pA (eC (.int 2))) (pA (eC (.int 9)))) (esNil)))))))) (sSeq (sRet (eC (.bl false))) (sNil)) (sNil)) (sSeq (sPut (tgT [2, 3, 4]) (eVar 0)) (sSeq (sIf (eOr (eNot (eP1 (pIsi .tuple) (pN 3))) (eNot (eChain pLe pLe (eC (.int 2)) (eP1 pLen (pN 3)) (eC (.int 8))))) (sSeq (sRet (eC (.bl false))) (sNil)) (sNil)) (sSeq (sFor (iP (pN 3)) (tgN 1) (sSeq (sIf (eOr (eNot (eP1 (pIsi .tuple) (pN 1))) (eOr (eNot (eChain pLe pLe (eC (.int 1)) (eP1 pLen (pN 1)) (eC (.int 6)))) (eNot (eP1 pAll (pA (eLC (iP (pN 1)) [5] (tgN 5) (eYes) (eCall f_is_stand (esCons (eVar 5) (esNil))))))))) (sSeq (sRet (eC (.bl false))) (sNil)) (sNil)) (sNil))) (sSeq (sRet (eCall f_is_folk (esCons (eVar 4) (esCons (eP1 pLen (pN 3)) (esNil))))) (sNil)))))
def f_is_crowd : Fn := runFn 6 d_is_crowd
def d_look_crowd : Sm := sSeq (sIf (eNot (eCall f_is_crowd (esCons (eVar 0) (esNil)))) (sSeq (sRaise .crowd) (sNil)) (sNil)) (sNil)
def f_look_crowd : Fn := runFn 1 d_look_crowd
def d_look_one : Sm := sSeq (sIf (eNot (eCall f_is_whole (esCons (eVar 1) (esCons (eC (.int 0)) (esCons (eP2 pSub (pA (eP1 pLen (pA (eP2 pIdx (pN 0) (pA (eC (.int 1))))))) (pA (eC (.int 1)))) (esNil)))))) (sSeq (sRaise .folk) (sNil)) (sNil)) (sNil)
def f_look_one : Fn := runFn 2 d_look_one
def d_look_beat : Sm := sSeq (sIf (eNot (eCall f_is_whole (esCons (eVar 0) (esCons (eC (.int 0)) (esCons (eC (.int 1000000000000)) (esNil)))))) (sSeq (sRaise .beat) (sNil)) (sNil)) (sNil)
def f_look_beat : Fn := runFn 1 d_look_beat
def d_is_late : Sm := sSeq (sIf (eOr (eNot (eP1 (pIsi .tuple) (pN 1))) (eOr (eP2 pNeK (pA (eP1 pLen (pN 1))) (pA (eC (.int 3)))) (eNot (eCall f_is_whole (esCons (eP2 pIdx (pN 1) (pA (eC (.int 0)))) (esCons (eC (.int 0)) (esCons (eP2 pSub (pA (eP1 pLen (pA (eP2 pIdx (pN 0) (pA (eC (.int 1))))))) (pA (eC (.int 1)))) (esNil)))))))) (sSeq (sRet (eC (.bl false))) (sNil)) (sNil)) (sSeq (sRet (eAnd (eCall f_is_whole (esCons (eP2 pIdx (pN 1) (pA (eC (.int 1)))) (esCons (eC (.int 0)) (esCons (eC (.int 1000000000000)) (esNil))))) (eCall f_is_whole (esCons (eP2 pIdx (pN 1) (pA (eC (.int 2)))) (esCons (eC (.int 1)) (esCons (eC (.int 6)) (esNil))))))) (sNil))
def f_is_late : Fn := runFn 2 d_is_late
def d_look_lates : Sm := sSeq (sPut (tgN 2) (eAnd (eP1 (pIsi .tuple) (pN 1)) (eAnd (eP2 pLe (pA (eP1 pLen (pN 1))) (pA (eC (.int 4)))) (eP1 pAll (pA (eLC (iP (pN 1)) [3] (tgN 3) (eYes) (eCall f_is_late (esCons (eVar 0) (esCons (eVar 3) (esNil)))))))))) (sSeq (sIf (eOr (eNot (eVar 2)) (eP1 pAny (pA (eLC (iR1 (eP2 pSub (pA (eP1 pLen (pN 1))) (pA (eC (.int 1))))) [4] (tgN 4) (eYes) (eP2 pGe (pA (eP2 pIdx (pA (eP2 pIdx (pN 1) (pN 4))) (pA (eC (.int 0))))) (pA (eP2 pIdx (pA (eP2 pIdx (pN 1) (pA (eP2 pAdd (pN 4) (pA (eC (.int 1))))))) (pA (eC (.int 0)))))))))) (sSeq (sRaise .beat) (sNil)) (sNil)) (sNil))
def f_look_lates : Fn := runFn 5 d_look_lates
def d_stood : Sm := sSeq (sPut (tgN 4) (eP2 pIdx (pA (eP2 pIdx (pN 0) (pA (eC (.int 1))))) (pN 1))) (sSeq (sFor (iP (pN 3)) (tgT [5, 6, 7]) (sSeq (sIf (eAnd (eP2 pEq (pN 5) (pN 1)) (eP2 pGe (pN 2) (pN 6))) (sSeq (sRet (eP2 pIdx (pN 4) (pA (eP2 pMod (pA (eP2 pSub (pN 2) (pN 7))) (pA (eP1 pLen (pN 4))))))) (sNil)) (sNil)) (sNil))) (sSeq (sRet (eP2 pIdx (pN 4) (pA (eP2 pMod (pN 2) (pA (eP1 pLen (pN 4))))))) (sNil)))
def f_stood : Fn := runFn 8 d_stood
def d_stand : Sm := sSeq (sEx (eCall f_look_crowd (esCons (eVar 0) (esNil)))) (sSeq (sEx (eCall f_look_one (esCons (eVar 0) (esCons (eVar 1) (esNil))))) (sSeq (sEx (eCall f_look_beat (esCons (eVar 2) (esNil)))) (sSeq (sEx (eCall f_look_lates (esCons (eVar 0) (esCons (eVar 3) (esNil))))) (sSeq (sRet (eCall f_stood (esCons (eVar 0) (esCons (eVar 1) (esCons (eVar 2) (esCons (eVar 3) (esNil))))))) (sNil)))))
def f_stand : Fn := runFn 4 d_stand
def d_heard : Sm := sSeq (sPut (tgT [6, 7, 8]) (eCall f_stood (esCons (eVar 0) (esCons (eVar 1) (esCons (eVar 3) (esCons (eVar 4) (esNil))))))) (sSeq (sPut (tgN 5) (eCall f_stood (esCons (eVar 0) (esCons (eVar 2) (esCons (eVar 3) (esCons (eVar 4) (esNil))))))) (sSeq (sPar [9, 10] (esCons (eP2 pSub (pA (eP2 pIdx (pN 5) (pA (eC (.int 0))))) (pN 6)) (esCons (eP2 pSub (pA (eP2 pIdx (pN 5) (pA (eC (.int 1))))) (pN 7)) (esNil)))) (sSeq (sIf (eOr (eP2 pEq (pN 1) (pN 2)) (eP2 pGt (pA (eP2 pAdd (pA (eP1 pAbs (pN 9))) (pA (eP1 pAbs (pN 10))))) (pA (eP2 pIdx (pN 0) (pA (eC (.int 0))))))) (sSeq (sRet (eC (.bl false))) (sNil)) (sNil)) (sSeq (sRet (eP2 pGe (pA (eP2 pAdd (pA (eP2 pMul (pA (eP2 pIdx (pA (eP2 pIdx (pA (eC (.tup [(.tup [(.int 1), (.int 0)]), (.tup [(.int 0), (.int 1)]), (.tup [(.int (-1)), (.int 0)]), (.tup [(.int 0), (.int (-1))])]))) (pN 8))) (pA (eC (.int 0))))) (pN 9))) (pA (eP2 pMul (pA (eP2 pIdx (pA (eP2 pIdx (pA (eC (.tup [(.tup [(.int 1), (.int 0)]), (.tup [(.int 0), (.int 1)]), (.tup [(.int (-1)), (.int 0)]), (.tup [(.int 0), (.int (-1))])]))) (pN 8))) (pA (eC (.int 1))))) (pN 10))))) (pA (eC (.int 0))))) (sNil)))))
def f_heard : Fn := runFn 11 d_heard
def d_ears : Sm := sSeq (sRet (eP1 pTuple (pA (eLC (iR1 (eP1 pLen (pA (eP2 pIdx (pN 0) (pA (eC (.int 1))))))) [4] (tgN 4) (eCall f_heard (esCons (eVar 0) (esCons (eVar 4) (esCons (eVar 1) (esCons (eVar 2) (esCons (eVar 3) (esNil))))))) (eVar 4))))) (sNil)
def f_ears : Fn := runFn 5 d_ears
def d_hearers : Sm := sSeq (sEx (eCall f_look_crowd (esCons (eVar 0) (esNil)))) (sSeq (sEx (eCall f_look_one (esCons (eVar 0) (esCons (eVar 1) (esNil))))) (sSeq (sEx (eCall f_look_beat (esCons (eVar 2) (esNil)))) (sSeq (sEx (eCall f_look_lates (esCons (eVar 0) (esCons (eVar 3) (esNil))))) (sSeq (sRet (eCall f_ears (esCons (eVar 0) (esCons (eVar 1) (esCons (eVar 2) (esCons (eVar 3) (esNil))))))) (sNil)))))
def f_hearers : Fn := runFn 4 d_hearers
def d_may_tell : Sm := sSeq (sIf (eP2 pInX (pN 1) (pA (eP2 pIdx (pN 0) (pA (eC (.int 2)))))) (sSeq (sRet (eC (.bl false))) (sNil)) (sNil)) (sSeq (sRet (eNot (eP1 pAny (pA (eLC (iP (pA (eCall f_ears (esCons (eVar 0) (esCons (eVar 1) (esCons (eVar 2) (esCons (eVar 3) (esNil)))))))) [4] (tgN 4) (eYes) (eP2 pInX (pN 4) (pA (eP2 pIdx (pN 0) (pA (eC (.int 2))))))))))) (sNil))
def f_may_tell : Fn := runFn 5 d_may_tell
def d_is_let : Sm := sSeq (sEx (eCall f_look_crowd (esCons (eVar 0) (esNil)))) (sSeq (sEx (eCall f_look_one (esCons (eVar 0) (esCons (eVar 1) (esNil))))) (sSeq (sEx (eCall f_look_beat (esCons (eVar 2) (esNil)))) (sSeq (sEx (eCall f_look_lates (esCons (eVar 0) (esCons (eVar 3) (esNil))))) (sSeq (sRet (eCall f_may_tell (esCons (eVar 0) (esCons (eVar 1) (esCons (eVar 2) (esCons (eVar 3) (esNil))))))) (sNil)))))
def f_is_let : Fn := runFn 4 d_is_let
def d_common : Sm := sSeq (sWhile (eP2 pNeK (pN 1) (pA (eC (.int 0)))) (sSeq (sPar [0, 1] (esCons (eVar 1) (esCons (eP2 pMod (pN 0) (pN 1)) (esNil)))) (sNil))) (sSeq (sRet (eVar 0)) (sNil))
def f_common : Fn := runFn 2 d_common
def d_round_of : Sm := sSeq (sPut (tgN 1) (eC (.int 1))) (sSeq (sFor (iP (pN 0)) (tgN 2) (sSeq (sFor (iP (pA (eP2 pIdx (pN 2) (pA (eC (.int 1)))))) (tgN 3) (sSeq (sPut (tgN 1) (eP2 pDiv (pA (eP2 pMul (pN 1) (pA (eP1 pLen (pN 3))))) (pA (eCall f_common (esCons (eVar 1) (esCons (eP1 pLen (pN 3)) (esNil))))))) (sNil))) (sNil))) (sSeq (sRet (eVar 1)) (sNil)))
def f_round_of : Fn := runFn 4 d_round_of
def d_joint_round : Sm := sSeq (sEx (eCall f_look_crowd (esCons (eVar 0) (esNil)))) (sSeq (sRet (eCall f_round_of (esCons (eLst (esCons (eVar 0) (esNil))) (esNil)))) (sNil))
def f_joint_round : Fn := runFn 1 d_joint_round
def d_law_town : Sm := sSeq (sRet (eBox (eLst (esCons (eBox (eIf (eP2 pNeK (pN 0) (pA (eLst (esNil)))) (eP1 pListK (pN 0)) (eLst (esCons (eC (.int 0)) (esNil))))) (esCons (eC (.int 0)) (esNil)))))) (sNil)
def f_law_town : Fn := runFn 1 d_law_town
def d_law_draw : Sm := sSeq (sPut (tgN 2) (eP2 pIdx (pN 0) (pA (eC (.int 0))))) (sSeq (sSetC (eVar 0) (eC (.int 1)) (eP2 pAdd (pA (eP2 pIdx (pN 0) (pA (eC (.int 1))))) (pA (eC (.int 1))))) (sSeq (sPut (tgN 3) (eP2 pMod (pA (eP2 pIdx (pN 0) (pA (eC (.int 1))))) (pA (eP1 pLen (pN 2))))) (sSeq (sPut (tgN 4) (eP2 pIdx (pN 2) (pN 3))) (sSeq (sIf (eP2 pGe (pN 4) (pA (eC (.int 1000000000000000000)))) (sSeq (sSetC (eVar 2) (eVar 3) (eP2 pDiv (pN 4) (pN 1))) (sSeq (sRet (eP2 pMod (pN 4) (pN 1))) (sNil))) (sNil)) (sSeq (sPut (tgN 5) (eP2 pMod (pA (eP2 pAdd (pN 4) (pA (eP2 pMul (pA (eC (.int 104729))) (pA (eP2 pIdx (pN 0) (pA (eC (.int 1))))))))) (pA (eC (.int 4294967291))))) (sSeq (sPut (tgN 5) (eP2 pMod (pA (eP2 pPow (pN 5) (pA (eC (.int 5))))) (pA (eC (.int 4294967279))))) (sSeq (sRet (eP2 pMod (pA (eP2 pDiv (pA (eP2 pMod (pA (eP2 pAdd (pA (eP2 pMul (pA (eP2 pDiv (pN 5) (pA (eC (.int 64))))) (pA (eC (.int 69621))))) (pN 5))) (pA (eC (.int 4294967231))))) (pA (eC (.int 8))))) (pN 1))) (sNil))))))))
def f_law_draw : Fn := runFn 6 d_law_draw
def d_law_pick : Sm := sSeq (sRet (eP2 pIdx (pN 1) (pA (eCall f_law_draw (esCons (eVar 0) (esCons (eP1 pLen (pN 1)) (esNil))))))) (sNil)
def f_law_pick : Fn := runFn 2 d_law_pick
def d_law_is : Sm := sSeq (sRet (eAnd (eP1 (pIsi .bool) (pN 0)) (eP2 pEq (pN 0) (pN 1)))) (sNil)
def f_law_is : Fn := runFn 2 d_law_is
def d_law_meetings : Sm := sSeq (sPut (tgN 3) (eP2 pAdd (pA (eC (.int 3))) (pA (eCall f_law_draw (esCons (eVar 0) (esCons (eVar 2) (esNil))))))) (sSeq (sOwn 4 (eLC (iR1 (eVar 1)) [10] (tgN 10) (eYes) (eBox (eLst esNil)))) (sSeq (sFz 4) (sSeq (sPut (tgN 5) (eP2 pGt (pA (eCall f_law_draw (esCons (eVar 0) (esCons (eC (.int 3)) (esNil))))) (pA (eC (.int 0))))) (sSeq (sFor (iR1 (eVar 3)) (tgN 6) (sSeq (sOwn 8 (eLR (eVar 1))) (sSeq (sOwn 9 (eLst (esCons (eP2 pSub (pA (eC (.int 0))) (pA (eC (.int 8)))) (esCons (eP2 pSub (pA (eC (.int 0))) (pA (eC (.int 2)))) (esCons (eC (.int 4)) (esCons (eP2 pSub (pA (eP2 pAdd (pA (eP2 pSub (pA (eC (.int 0))) (pA (eC (.int 8))))) (pA (eP2 pMul (pA (eC (.int 6))) (pA (eC (.int 3))))))) (pA (eC (.int 1)))) (esNil))))))) (sSeq (sWhile (eP2 pNeK (pN 8) (pA (eLst (esNil)))) (sSeq (sPopIf 11 9 (eP2 pGt (pA (eP1 pLen (pN 9))) (pA (eC (.int 0)))) (eC (.int 0)) (eC (.int 0))) (sSeq (sPut (tgN 12) (eIf (eP2 pGt (pA (eP1 pLen (pN 9))) (pA (eC (.int 0)))) (eP2 pMul (pA (eC (.int 5))) (pA (eP2 pMod (pA (eP1 pLen (pN 9))) (pA (eC (.int 2)))))) (eC (.int 9)))) (sSeq (sFor (iP (pA (eCut (pA (eLst (esCons (eTup (esCons (eVar 11) (esCons (eVar 12) (esCons (eC (.int 0)) (esNil))))) (esCons (eTup (esCons (eP2 pAdd (pN 11) (pA (eC (.int 1)))) (esCons (eVar 12) (esCons (eC (.int 2)) (esNil))))) (esCons (eTup (esCons (eVar 11) (esCons (eP2 pAdd (pN 12) (pA (eC (.int 1)))) (esCons (eC (.int 3)) (esNil))))) (esNil)))))) none (some (eCall f_law_pick (esCons (eVar 0) (esCons (eIf (eVar 5) (eLst (esCons (eC (.int 1)) (esCons (eC (.int 2)) (esCons (eC (.int 1)) (esCons (eC (.int 2)) (esCons (eC (.int 2)) (esCons (eC (.int 1)) (esNil)))))))) (eLst (esCons (eC (.int 2)) (esCons (eC (.int 2)) (esCons (eC (.int 2)) (esCons (eC (.int 2)) (esCons (eC (.int 1)) (esCons (eC (.int 3)) (esNil))))))))) (esNil)))))))) (tgT [13, 14, 15]) (sSeq (sIf (eP2 pNeK (pN 8) (pA (eLst (esNil)))) (sSeq (sPop 16 8 (eIf (eVar 5) (eC (.int 0)) (eCall f_law_draw (esCons (eVar 0) (esCons (eP1 pLen (pN 8)) (esNil)))))) (sSeq (sAppC (eP2 pIdx (pN 4) (pN 16)) (eTup (esCons (eP2 pMin2 (pN 13) (pA (eC (.int 9)))) (esCons (eP2 pMin2 (pN 14) (pA (eC (.int 9)))) (esCons (eIf (eP2 pGt (pA (eCall f_law_draw (esCons (eVar 0) (esCons (eC (.int 9)) (esNil))))) (pA (eC (.int 0)))) (eVar 15) (eCall f_law_draw (esCons (eVar 0) (esCons (eC (.int 4)) (esNil))))) (esNil)))))) (sNil))) (sNil)) (sNil))) (sNil))))) (sNil))))) (sSeq (sPut (tgN 7) (eP1 pTuple (pA (eLC (iR1 (eVar 1)) [10] (tgN 10) (eP2 pEq (pA (eCall f_law_draw (esCons (eVar 0) (esCons (eC (.int 15)) (esNil))))) (pA (eC (.int 0)))) (eVar 10))))) (sSeq (sRet (eTup (esCons (eP2 pAdd (pA (eC (.int 1))) (pA (eCall f_law_draw (esCons (eVar 0) (esCons (eC (.int 2)) (esNil)))))) (esCons (eP1 pTuple (pA (eLC (iP (pN 4)) [17] (tgN 17) (eYes) (eP1 pTuple (pN 17))))) (esCons (eVar 7) (esNil)))))) (sNil)))))))
def f_law_meetings : Fn := runFn 18 d_law_meetings
def d_law_crowd : Sm := sSeq (sIf (eP2 pGt (pA (eCall f_law_draw (esCons (eVar 0) (esCons (eC (.int 3)) (esNil))))) (pA (eC (.int 0)))) (sSeq (sRet (eCall f_law_meetings (esCons (eVar 0) (esCons (eVar 1) (esCons (eVar 2) (esNil)))))) (sNil)) (sNil)) (sSeq (sOwn 3 (eLst (esNil))) (sSeq (sPut (tgT [6, 7]) (eCall f_law_pick (esCons (eVar 0) (esCons (eLst (esCons (eTup (esCons (eC (.int 4)) (esCons (eC (.int 0)) (esNil)))) (esCons (eTup (esCons (eC (.int 2)) (esCons (eC (.int 1)) (esNil)))) (esCons (eTup (esCons (eC (.int 2)) (esCons (eC (.int 1)) (esNil)))) (esCons (eTup (esCons (eC (.int 1)) (esCons (eC (.int 1)) (esNil)))) (esNil)))))) (esNil))))) (sSeq (sFor (iR1 (eVar 1)) (tgN 4) (sSeq (sOwn 8 (eLst (esNil))) (sSeq (sFor (iR1 (eP2 pAdd (pA (eC (.int 1))) (pA (eCall f_law_draw (esCons (eVar 0) (esCons (eVar 2) (esNil))))))) (tgN 9) (sSeq (sApp 8 (eTup (esCons (eP2 pAdd (pA (eP2 pMul (pN 7) (pN 4))) (pA (eCall f_law_draw (esCons (eVar 0) (esCons (eVar 6) (esNil)))))) (esCons (eCall f_law_draw (esCons (eVar 0) (esCons (eC (.int 2)) (esNil)))) (esCons (eCall f_law_draw (esCons (eVar 0) (esCons (eC (.int 4)) (esNil)))) (esNil)))))) (sNil))) (sSeq (sApp 3 (eP1 pTuple (pN 8))) (sNil))))) (sSeq (sPut (tgN 5) (eP1 pTuple (pA (eLC (iR1 (eVar 1)) [4] (tgN 4) (eP2 pEq (pA (eCall f_law_draw (esCons (eVar 0) (esCons (eC (.int 10)) (esNil))))) (pA (eC (.int 0)))) (eVar 4))))) (sSeq (sRet (eTup (esCons (eP2 pAdd (pA (eC (.int 1))) (pA (eP2 pDiv (pA (eCall f_law_draw (esCons (eVar 0) (esCons (eC (.int 5)) (esNil))))) (pA (eC (.int 2)))))) (esCons (eP1 pTuple (pN 3)) (esCons (eVar 5) (esNil)))))) (sNil))))))
def f_law_crowd : Fn := runFn 10 d_law_crowd
def d_law_stand : Sm := sSeq (sPut (tgN 4) (eP2 pIdx (pA (eP2 pIdx (pN 0) (pA (eC (.int 1))))) (pN 1))) (sSeq (sFor (iP (pN 3)) (tgT [5, 6, 7]) (sSeq (sIf (eAnd (eP2 pEq (pN 5) (pN 1)) (eP2 pGe (pN 2) (pN 6))) (sSeq (sRet (eP2 pIdx (pN 4) (pA (eP2 pMod (pA (eP2 pSub (pN 2) (pN 7))) (pA (eP1 pLen (pN 4))))))) (sNil)) (sNil)) (sNil))) (sSeq (sRet (eP2 pIdx (pN 4) (pA (eP2 pMod (pN 2) (pA (eP1 pLen (pN 4))))))) (sNil)))
def f_law_stand : Fn := runFn 8 d_law_stand
def d_law_hears : Sm := sSeq (sPut (tgT [7, 8, 9]) (eCall f_law_stand (esCons (eVar 0) (esCons (eVar 1) (esCons (eVar 3) (esCons (eVar 4) (esNil))))))) (sSeq (sPut (tgT [10, 11, 12]) (eCall f_law_stand (esCons (eVar 0) (esCons (eVar 2) (esCons (eVar 3) (esCons (eVar 4) (esNil))))))) (sSeq (sPut (tgN 5) (eP2 pAdd (pA (eP2 pMax2 (pA (eP2 pSub (pN 10) (pN 7))) (pA (eP2 pSub (pN 7) (pN 10))))) (pA (eP2 pMax2 (pA (eP2 pSub (pN 11) (pN 8))) (pA (eP2 pSub (pN 8) (pN 11))))))) (sSeq (sPut (tgN 6) (eP2 pIdx (pA (eLst (esCons (eP2 pGe (pN 10) (pN 7)) (esCons (eP2 pGe (pN 11) (pN 8)) (esCons (eP2 pLe (pN 10) (pN 7)) (esCons (eP2 pLe (pN 11) (pN 8)) (esNil))))))) (pN 9))) (sSeq (sRet (eAnd (eP2 pNeK (pN 1) (pN 2)) (eAnd (eP2 pLe (pN 5) (pA (eP2 pIdx (pN 0) (pA (eC (.int 0)))))) (eVar 6)))) (sNil)))))
def f_law_hears : Fn := runFn 13 d_law_hears
def d_law_ears : Sm := sSeq (sRet (eLC (iR1 (eP1 pLen (pA (eP2 pIdx (pN 0) (pA (eC (.int 1))))))) [4] (tgN 4) (eCall f_law_hears (esCons (eVar 0) (esCons (eVar 4) (esCons (eVar 1) (esCons (eVar 2) (esCons (eVar 3) (esNil))))))) (eVar 4))) (sNil)
def f_law_ears : Fn := runFn 5 d_law_ears
def d_law_let : Sm := sSeq (sPut (tgN 4) (eCall f_law_ears (esCons (eVar 0) (esCons (eVar 1) (esCons (eVar 2) (esCons (eVar 3) (esNil))))))) (sSeq (sIf (eOr (eP2 pInX (pN 1) (pA (eP2 pIdx (pN 0) (pA (eC (.int 2)))))) (eP2 pNeK (pA (eLC (iP (pN 4)) [5] (tgN 5) (eP2 pInX (pN 5) (pA (eP2 pIdx (pN 0) (pA (eC (.int 2)))))) (eVar 5))) (pA (eLst (esNil))))) (sSeq (sRet (eC .non)) (sNil)) (sNil)) (sSeq (sRet (eVar 4)) (sNil)))
def f_law_let : Fn := runFn 6 d_law_let
def d_law_size : Sm := sSeq (sPut (tgN 1) (eLst (esNil))) (sSeq (sFor (iP (pN 0)) (tgN 2) (sSeq (sPut (tgN 1) (eP2 pAdd (pN 1) (pA (eLC (iP (pA (eP2 pIdx (pN 2) (pA (eC (.int 1)))))) [5] (tgN 5) (eYes) (eP1 pLen (pN 5)))))) (sNil))) (sSeq (sPut (tgN 3) (eC (.int 1))) (sSeq (sWhile (eP2 pNeK (pA (eLC (iP (pN 1)) [4] (tgN 4) (eP2 pNeK (pA (eP2 pMod (pN 3) (pN 4))) (pA (eC (.int 0)))) (eVar 4))) (pA (eLst (esNil)))) (sSeq (sPut (tgN 3) (eP2 pAdd (pN 3) (pA (eC (.int 1))))) (sNil))) (sSeq (sRet (eVar 3)) (sNil)))))
def f_law_size : Fn := runFn 6 d_law_size
def d_law_some : Sm := sSeq (sRet (eP1 pTuple (pA (eLC (iR1 (eVar 1)) [3] (tgN 3) (eP2 pEq (pA (eCall f_law_draw (esCons (eVar 0) (esCons (eVar 2) (esNil))))) (pA (eC (.int 0)))) (eVar 3))))) (sNil)
def f_law_some : Fn := runFn 4 d_law_some
def d_look_folk : Sm := sSeq (sIf (eNot (eCall f_is_folk (esCons (eVar 1) (esCons (eP1 pLen (pA (eP2 pIdx (pN 0) (pA (eC (.int 1)))))) (esNil))))) (sSeq (sRaise .folk) (sNil)) (sNil)) (sNil)
def f_look_folk : Fn := runFn 2 d_look_folk
def d_is_whisper : Sm := sSeq (sIf (eOr (eNot (eP1 (pIsi .tuple) (pN 1))) (eOr (eP2 pNeK (pA (eP1 pLen (pN 1))) (pA (eC (.int 2)))) (eNot (eCall f_is_whole (esCons (eP2 pIdx (pN 1) (pA (eC (.int 0)))) (esCons (eC (.int 0)) (esCons (eC (.int 1000000000000)) (esNil)))))))) (sSeq (sRet (eC (.bl false))) (sNil)) (sNil)) (sSeq (sRet (eCall f_is_whole (esCons (eP2 pIdx (pN 1) (pA (eC (.int 1)))) (esCons (eC (.int 0)) (esCons (eP2 pSub (pA (eP1 pLen (pA (eP2 pIdx (pN 0) (pA (eC (.int 1))))))) (pA (eC (.int 1)))) (esNil)))))) (sNil))
def f_is_whisper : Fn := runFn 2 d_is_whisper
def d_look_row : Sm := sSeq (sPut (tgN 2) (eAnd (eP1 (pIsi .list) (pN 1)) (eAnd (eP2 pLe (pA (eP1 pLen (pN 1))) (pA (eC (.int 60)))) (eP1 pAll (pA (eLC (iP (pN 1)) [3] (tgN 3) (eYes) (eCall f_is_whisper (esCons (eVar 0) (esCons (eVar 3) (esNil)))))))))) (sSeq (sIf (eOr (eNot (eVar 2)) (eP1 pAny (pA (eLC (iR1 (eP2 pSub (pA (eP1 pLen (pN 1))) (pA (eC (.int 1))))) [4] (tgN 4) (eYes) (eP2 pGe2 (pA (eP2 pIdx (pN 1) (pN 4))) (pA (eP2 pIdx (pN 1) (pA (eP2 pAdd (pN 4) (pA (eC (.int 1)))))))))))) (sSeq (sRaise .row) (sNil)) (sNil)) (sNil))
def f_look_row : Fn := runFn 5 d_look_row
def d_look_evening : Sm := sSeq (sEx (eCall f_look_crowd (esCons (eVar 0) (esNil)))) (sSeq (sEx (eCall f_look_folk (esCons (eVar 0) (esCons (eVar 1) (esNil))))) (sSeq (sEx (eCall f_look_beat (esCons (eVar 2) (esNil)))) (sSeq (sEx (eCall f_look_lates (esCons (eVar 0) (esCons (eVar 3) (esNil))))) (sNil))))
def f_look_evening : Fn := runFn 4 d_look_evening
def d_passed_on : Sm := sSeq (sOwn 5 (eDC (iP (pN 1)) [9] (tgN 9) (eYes) (eVar 9) (eVar 3))) (sSeq (sOwn 6 (eLst (esNil))) (sSeq (sFor (iEn (pN 2)) (tgT [7, 8]) (sSeq (sPut (tgT [10, 11]) (eVar 8)) (sSeq (sIf (eOr (eP2 pLt (pN 10) (pN 3)) (eOr (eP2 pGt (pA (eGet2 (pN 5) (eVar 11) (eP2 pAdd (pN 10) (pA (eC (.int 1)))))) (pN 10)) (eNot (eCall f_may_tell (esCons (eVar 0) (esCons (eVar 11) (esCons (eVar 10) (esCons (eVar 4) (esNil))))))))) (sSeq (sApp 6 (eVar 7)) (sNil)) (sSeq (sFor (iP (pA (eCall f_ears (esCons (eVar 0) (esCons (eVar 11) (esCons (eVar 10) (esCons (eVar 4) (esNil)))))))) (tgN 9) (sSeq (sSetd 5 (eVar 9) (eP2 pAdd (pN 10) (pA (eC (.int 1))))) (sNil))) (sNil))) (sNil)))) (sSeq (sFzD 5) (sSeq (sFz 6) (sSeq (sRet (eTup (esCons (eVar 5) (esCons (eVar 6) (esNil))))) (sNil))))))
def f_passed_on : Fn := runFn 12 d_passed_on
def d_have : Sm := sSeq (sEx (eCall f_look_evening (esCons (eVar 0) (esCons (eVar 1) (esCons (eVar 3) (esCons (eVar 4) (esNil))))))) (sSeq (sEx (eCall f_look_row (esCons (eVar 0) (esCons (eVar 2) (esNil))))) (sSeq (sPut (tgN 5) (eP2 pIdx (pA (eCall f_passed_on (esCons (eVar 0) (esCons (eVar 1) (esCons (eVar 2) (esCons (eVar 3) (esCons (eVar 4) (esNil)))))))) (pA (eC (.int 0))))) (sSeq (sRet (eLC (iR1 (eP1 pLen (pA (eP2 pIdx (pN 0) (pA (eC (.int 1))))))) [6] (tgN 6) (eYes) (eGet1 (pN 5) (eVar 6)))) (sNil))))
def f_have : Fn := runFn 7 d_have
def d_falls : Sm := sSeq (sEx (eCall f_look_evening (esCons (eVar 0) (esCons (eVar 1) (esCons (eVar 3) (esCons (eVar 4) (esNil))))))) (sSeq (sEx (eCall f_look_row (esCons (eVar 0) (esCons (eVar 2) (esNil))))) (sSeq (sRet (eP2 pIdx (pA (eCall f_passed_on (esCons (eVar 0) (esCons (eVar 1) (esCons (eVar 2) (esCons (eVar 3) (esCons (eVar 4) (esNil)))))))) (pA (eC (.int 1))))) (sNil)))
def f_falls : Fn := runFn 5 d_falls
def d_is_right : Sm := sSeq (sRet (eP2 pEq (pA (eCallG f_falls [] [0, 1, 2, 3, 4] (esCons (eVar 0) (esCons (eVar 1) (esCons (eVar 2) (esNil)))) (esCons (eVar 3) (esCons (eVar 4) (esNil))))) (pA (eLst (esNil))))) (sNil)
def f_is_right : Fn := runFn 5 d_is_right
def d_needless : Sm := sSeq (sEx (eCall f_look_evening (esCons (eVar 0) (esCons (eVar 1) (esCons (eVar 4) (esCons (eVar 5) (esNil))))))) (sSeq (sEx (eCall f_look_row (esCons (eVar 0) (esCons (eVar 2) (esNil))))) (sSeq (sEx (eCall f_look_one (esCons (eVar 0) (esCons (eVar 3) (esNil))))) (sSeq (sPut (tgN 6) (eGet1 (pA (eP2 pIdx (pA (eCall f_passed_on (esCons (eVar 0) (esCons (eVar 1) (esCons (eVar 2) (esCons (eVar 4) (esCons (eVar 5) (esNil)))))))) (pA (eC (.int 0))))) (eVar 3))) (sSeq (sOwn 7 (eLst (esNil))) (sSeq (sFor (iR1 (eP1 pLen (pN 2))) (tgN 8) (sSeq (sPut (tgN 9) (eP2 pIdx (pA (eCall f_passed_on (esCons (eVar 0) (esCons (eVar 1) (esCons (eP2 pAdd (pA (eCut (pN 2) none (some (eVar 8)))) (pA (eCut (pN 2) (some (eP2 pAdd (pN 8) (pA (eC (.int 1))))) none))) (esCons (eVar 4) (esCons (eVar 5) (esNil)))))))) (pA (eC (.int 0))))) (sSeq (sIf (eP2 pEq (pA (eGet1 (pN 9) (eVar 3))) (pN 6)) (sSeq (sApp 7 (eVar 8)) (sNil)) (sNil)) (sNil)))) (sSeq (sFz 7) (sSeq (sRet (eVar 7)) (sNil))))))))
def f_needless : Fn := runFn 10 d_needless
def d_law_row : Sm := sSeq (sPut (tgN 4) (eLst (esNil))) (sSeq (sFor (iR1 (eCall f_law_draw (esCons (eVar 0) (esCons (eP2 pAdd (pN 3) (pA (eC (.int 1)))) (esNil))))) (tgN 5) (sSeq (sPut (tgN 6) (eTup (esCons (eP2 pAdd (pN 2) (pA (eCall f_law_draw (esCons (eVar 0) (esCons (eC (.int 8)) (esNil)))))) (esCons (eCall f_law_draw (esCons (eVar 0) (esCons (eP1 pLen (pA (eP2 pIdx (pN 1) (pA (eC (.int 1)))))) (esNil)))) (esNil))))) (sSeq (sPut (tgN 4) (eP2 pAdd (pN 4) (pA (eIf (eP2 pNotInX (pN 6) (pN 4)) (eLst (esCons (eVar 6) (esNil))) (eLst (esNil)))))) (sNil)))) (sSeq (sRet (eP1 pSorted (pN 4))) (sNil)))
def f_law_row : Fn := runFn 7 d_law_row
def d_law_given : Sm := sSeq (sOwn 5 (eDI0)) (sSeq (sFor (iP (pN 1)) (tgN 6) (sSeq (sDput 5 (eVar 6) (eVar 3)) (sNil))) (sSeq (sOwn 7 (eLst (esNil))) (sSeq (sFor (iR1 (eP1 pLen (pN 2))) (tgN 6) (sSeq (sPut (tgT [9, 10]) (eP2 pIdx (pN 2) (pN 6))) (sSeq (sPut (tgN 8) (eCall f_law_let (esCons (eVar 0) (esCons (eVar 10) (esCons (eVar 9) (esCons (eVar 4) (esNil))))))) (sSeq (sIf (eOr (eP2 pLt (pN 9) (pN 3)) (eOr (eP2 pNotIn2 (pN 10) (pN 5)) (eOr (eP2 pGt (pA (eP2 pIx2 (pN 5) (pN 10))) (pN 9)) (eP2 pIs (pN 8) (pA (eC .non)))))) (sSeq (sApp 7 (eVar 6)) (sNil)) (sSeq (sFor (iP (pN 8)) (tgN 11) (sSeq (sIf (eP2 pNotIn2 (pN 11) (pN 5)) (sSeq (sDput 5 (eVar 11) (eP2 pAdd (pN 9) (pA (eC (.int 1))))) (sNil)) (sNil)) (sNil))) (sNil))) (sNil))))) (sSeq (sFzD 5) (sSeq (sFz 7) (sSeq (sRet (eTup (esCons (eVar 5) (esCons (eVar 7) (esNil))))) (sNil)))))))
def f_law_given : Fn := runFn 12 d_law_given
def d_law_owners : Sm := sSeq (sPut (tgN 2) (eTup (esCons (eCall f_law_draw (esCons (eVar 0) (esCons (eVar 1) (esNil)))) (esNil)))) (sSeq (sRet (eCall f_law_pick (esCons (eVar 0) (esCons (eLst (esCons (eVar 2) (esCons (eVar 2) (esCons (eVar 2) (esCons (eCall f_law_some (esCons (eVar 0) (esCons (eVar 1) (esCons (eC (.int 2)) (esNil))))) (esCons (eCall f_law_some (esCons (eVar 0) (esCons (eVar 1) (esCons (eC (.int 3)) (esNil))))) (esNil))))))) (esNil))))) (sNil))
def f_law_owners : Fn := runFn 3 d_law_owners
def d_law_plain_told : Sm := sSeq (sIf (eP2 pNeK (pN 4) (pA (eC (.int 0)))) (sSeq (sRet (eC (.bl true))) (sNil)) (sNil)) (sSeq (sIf (eOr (eP2 pNeK (pA (eCallG f_have [(.int 0)] [0, 1, 2, 3, 4] (esCons (eVar 0) (esCons (eVar 1) (esCons (eVar 2) (esNil)))) (esCons (eVar 5) (esNil)))) (pN 6)) (eP2 pNeK (pA (eCallG f_falls [(.int 0)] [0, 1, 2, 3, 4] (esCons (eVar 0) (esCons (eVar 1) (esCons (eVar 2) (esNil)))) (esCons (eVar 5) (esNil)))) (pN 7))) (sSeq (sRet (eC (.bl false))) (sNil)) (sNil)) (sSeq (sIf (eNot (eCall f_law_is (esCons (eCallG f_is_right [(.int 0)] [0, 1, 2, 3, 4] (esCons (eVar 0) (esCons (eVar 1) (esCons (eVar 2) (esNil)))) (esCons (eVar 5) (esNil))) (esCons (eP2 pEq (pN 7) (pA (eLst (esNil)))) (esNil))))) (sSeq (sRet (eC (.bl false))) (sNil)) (sNil)) (sSeq (sIf (eP2 pNeK (pA (eCallG f_needless [(.int 0)] [0, 1, 2, 3, 4, 5] (esCons (eVar 0) (esCons (eVar 1) (esCons (eVar 2) (esCons (eVar 3) (esNil))))) (esCons (eVar 5) (esNil)))) (pN 8)) (sSeq (sRet (eC (.bl false))) (sNil)) (sNil)) (sSeq (sRet (eOr (eP2 pNeK (pN 5) (pA (eTup (esNil)))) (eAnd (eP2 pEq (pA (eCallG f_have [(.int 0), (.tup [])] [0, 1, 2, 3, 4] (esCons (eVar 0) (esCons (eVar 1) (esCons (eVar 2) (esNil)))) (esNil))) (pN 6)) (eP2 pEq (pA (eCallG f_falls [(.int 0), (.tup [])] [0, 1, 2, 3, 4] (esCons (eVar 0) (esCons (eVar 1) (esCons (eVar 2) (esNil)))) (esNil))) (pN 7))))) (sNil)))))
def f_law_plain_told : Fn := runFn 9 d_law_plain_told
def d_look_wait : Sm := sSeq (sIf (eP1 pAny (pA (eLC (iP (pN 1)) [2, 3, 4] (tgT [2, 3, 4]) (eYes) (eP2 pGt (pN 3) (pA (eP2 pAdd (pN 0) (pA (eC (.int 200))))))))) (sSeq (sRaise .beat) (sNil)) (sNil)) (sNil)
def f_look_wait : Fn := runFn 5 d_look_wait
def d_spread : Sm := sSeq (sOwn 4 (eDC (iP (pN 1)) [11] (tgN 11) (eYes) (eVar 11) (eVar 2))) (sSeq (sPut (tgN 5) (eC (.int 0))) (sSeq (sPut (tgN 6) (eVar 2)) (sSeq (sPut (tgN 7) (eP1 pMaxL (pA (eP2 pAdd (pA (eLst (esCons (eVar 2) (esNil)))) (pA (eLC (iP (pN 3)) [11] (tgN 11) (eYes) (eP2 pIdx (pN 11) (pA (eC (.int 1)))))))))) (sSeq (sPut (tgN 8) (eCall f_round_of (esCons (eLst (esCons (eVar 0) (esNil))) (esNil)))) (sSeq (sWhile (eOr (eP2 pLt (pN 5) (pN 8)) (eP2 pLt (pN 6) (pA (eP2 pAdd (pN 7) (pN 8))))) (sSeq (sOwn 9 (eDI0)) (sSeq (sLk 4 (sFor (iP (pN 4)) (tgN 10) (sSeq (sIf (eAnd (eP2 pLe (pA (eP2 pIx2 (pN 4) (pN 10))) (pN 6)) (eCall f_may_tell (esCons (eVar 0) (esCons (eVar 10) (esCons (eVar 6) (esCons (eVar 3) (esNil))))))) (sSeq (sIor 9 (eDC (iP (pA (eCall f_ears (esCons (eVar 0) (esCons (eVar 10) (esCons (eVar 6) (esCons (eVar 3) (esNil)))))))) [11] (tgN 11) (eP2 pNotIn2 (pN 11) (pN 4)) (eVar 11) (eC (.bl true)))) (sNil)) (sNil)) (sNil)))) (sSeq (sLk 9 (sIor 4 (eDC (iP (pN 9)) [11] (tgN 11) (eYes) (eVar 11) (eP2 pAdd (pN 6) (pA (eC (.int 1))))))) (sSeq (sPut (tgN 5) (eIf (eP2 pNe2 (pN 9) (pA (eDI0))) (eC (.int 0)) (eP2 pAdd (pN 5) (pA (eC (.int 1)))))) (sSeq (sAug 6 pAddI (eC (.int 1))) (sNil))))))) (sSeq (sFzD 4) (sSeq (sRet (eVar 4)) (sNil))))))))
def f_spread : Fn := runFn 12 d_spread
def d_earliest : Sm := sSeq (sEx (eCall f_look_evening (esCons (eVar 0) (esCons (eVar 1) (esCons (eVar 2) (esCons (eVar 3) (esNil))))))) (sSeq (sEx (eCall f_look_wait (esCons (eVar 2) (esCons (eVar 3) (esNil))))) (sSeq (sPut (tgN 4) (eCall f_spread (esCons (eVar 0) (esCons (eVar 1) (esCons (eVar 2) (esCons (eVar 3) (esNil))))))) (sSeq (sRet (eLC (iR1 (eP1 pLen (pA (eP2 pIdx (pN 0) (pA (eC (.int 1))))))) [5] (tgN 5) (eYes) (eGet1 (pN 4) (eVar 5)))) (sNil))))
def f_earliest : Fn := runFn 6 d_earliest
def d_law_firsts : Sm := sSeq (sOwn 5 (eDI0)) (sSeq (sFor (iP (pN 1)) (tgN 6) (sSeq (sDput 5 (eVar 6) (eVar 2)) (sNil))) (sSeq (sFor (iR2 (eVar 2) (eP2 pAdd (pN 2) (pN 4))) (tgN 7) (sSeq (sFor (iP (pA (eLk 5 (eLC (iP (pN 5)) [6] (tgN 6) (eP2 pLe (pA (eP2 pIx2 (pN 5) (pN 6))) (pN 7)) (eVar 6))))) (tgN 8) (sSeq (sPut (tgN 9) (eCall f_law_let (esCons (eVar 0) (esCons (eVar 8) (esCons (eVar 7) (esCons (eVar 3) (esNil))))))) (sSeq (sFor (iP (pA (eIf (eP2 pIs (pN 9) (pA (eC .non))) (eLst (esNil)) (eVar 9)))) (tgN 10) (sSeq (sIf (eP2 pNotIn2 (pN 10) (pN 5)) (sSeq (sDput 5 (eVar 10) (eP2 pAdd (pN 7) (pA (eC (.int 1))))) (sNil)) (sNil)) (sNil))) (sNil)))) (sNil))) (sSeq (sFzD 5) (sSeq (sRet (eVar 5)) (sNil)))))
def f_law_firsts : Fn := runFn 11 d_law_firsts
def d_closed : Sm := sSeq (sOwn 2 (eP1 pListK (pN 1))) (sSeq (sPut (tgN 3) (eCall f_round_of (esCons (eLst (esCons (eVar 0) (esNil))) (esNil)))) (sSeq (sPut (tgN 4) (eC (.int 0))) (sSeq (sWhile (eP2 pLt (pN 4) (pA (eP1 pLen (pN 2)))) (sSeq (sPut (tgN 5) (eP2 pIdx (pN 2) (pN 4))) (sSeq (sFor (iR1 (eVar 3)) (tgN 6) (sSeq (sIf (eCall f_may_tell (esCons (eVar 0) (esCons (eVar 5) (esCons (eVar 6) (esCons (eTup (esNil)) (esNil)))))) (sSeq (sExt 2 (eLC (iP (pA (eCall f_ears (esCons (eVar 0) (esCons (eVar 5) (esCons (eVar 6) (esCons (eTup (esNil)) (esNil)))))))) [7] (tgN 7) (eP2 pNotInX (pN 7) (pN 2)) (eVar 7))) (sNil)) (sNil)) (sNil))) (sSeq (sAug 4 pAddI (eC (.int 1))) (sNil))))) (sSeq (sRet (eP1 pTuple (pA (eP1 pSorted (pN 2))))) (sNil)))))
def f_closed : Fn := runFn 8 d_closed
def d_ever : Sm := sSeq (sEx (eCall f_look_crowd (esCons (eVar 0) (esNil)))) (sSeq (sEx (eCall f_look_folk (esCons (eVar 0) (esCons (eVar 1) (esNil))))) (sSeq (sRet (eCall f_closed (esCons (eVar 0) (esCons (eVar 1) (esNil))))) (sNil)))
def f_ever : Fn := runFn 2 d_ever
def d_lot : Sm := sSeq (sEx (eCall f_look_crowd (esCons (eVar 0) (esNil)))) (sSeq (sEx (eCall f_look_folk (esCons (eVar 0) (esCons (eVar 1) (esNil))))) (sSeq (sEx (eCall f_look_one (esCons (eVar 0) (esCons (eVar 2) (esNil))))) (sSeq (sPut (tgN 3) (eCall f_closed (esCons (eVar 0) (esCons (eVar 1) (esNil))))) (sSeq (sIf (eP2 pInX (pN 2) (pN 3)) (sSeq (sRaise .none) (sNil)) (sNil)) (sSeq (sRet (eVar 3)) (sNil))))))
def f_lot : Fn := runFn 4 d_lot
def d_shows : Sm := sSeq (sEx (eCall f_look_crowd (esCons (eVar 0) (esNil)))) (sSeq (sEx (eCall f_look_folk (esCons (eVar 0) (esCons (eVar 1) (esNil))))) (sSeq (sEx (eCall f_look_folk (esCons (eVar 0) (esCons (eVar 2) (esNil))))) (sSeq (sEx (eCall f_look_one (esCons (eVar 0) (esCons (eVar 3) (esNil))))) (sSeq (sIf (eOr (eP2 pInX (pN 3) (pN 1)) (eNot (eP1 pAll (pA (eLC (iP (pN 2)) [6] (tgN 6) (eYes) (eP2 pInX (pN 6) (pN 1))))))) (sSeq (sRet (eC (.bl false))) (sNil)) (sNil)) (sSeq (sFor (iR1 (eCall f_round_of (esCons (eLst (esCons (eVar 0) (esNil))) (esNil)))) (tgN 4) (sSeq (sFor (iP (pN 1)) (tgN 5) (sSeq (sIf (eAnd (eCall f_may_tell (esCons (eVar 0) (esCons (eVar 5) (esCons (eVar 4) (esCons (eTup (esNil)) (esNil)))))) (eP1 pAny (pA (eLC (iP (pA (eCall f_ears (esCons (eVar 0) (esCons (eVar 5) (esCons (eVar 4) (esCons (eTup (esNil)) (esNil)))))))) [6] (tgN 6) (eYes) (eP2 pNotInX (pN 6) (pN 1)))))) (sSeq (sRet (eC (.bl false))) (sNil)) (sNil)) (sNil))) (sNil))) (sSeq (sRet (eC (.bl true))) (sNil)))))))
def f_shows : Fn := runFn 7 d_shows
def d_law_refusal : Sm := sSeq (sPut (tgN 1) (eLst (esCons (eP1 (pIsEx (kOne .crowd)) (pN 0)) (esCons (eP1 (pIsEx (kOne .folk)) (pN 0)) (esCons (eP1 (pIsEx (kOne .beat)) (pN 0)) (esNil)))))) (sSeq (sPut (tgN 1) (eP2 pAdd (pN 1) (pA (eLst (esCons (eP1 (pIsEx (kOne .row)) (pN 0)) (esCons (eP1 (pIsEx (kOne .notes)) (pN 0)) (esCons (eP1 (pIsEx (kOne .paper)) (pN 0)) (esNil)))))))) (sSeq (sPut (tgN 1) (eP2 pAdd (pN 1) (pA (eLst (esCons (eP1 (pIsEx (kOne .text)) (pN 0)) (esCons (eP1 (pIsEx (kOne .none)) (pN 0)) (esNil))))))) (sSeq (sIf (eOr (eP2 pNeK (pA (eP1 (pCntB true) (pN 1))) (pA (eC (.int 1)))) (eOr (eNot (eP1 (pIsEx kAny) (pN 0))) (eNot (eP1 (pIsEx kAny) (pN 0))))) (sSeq (sRet (eC (.str ("odd" : Str)))) (sNil)) (sNil)) (sSeq (sRet (eP2 pIdx (pA (eLst (esCons (eC (.str ("crowd" : Str))) (esCons (eC (.str ("folk" : Str))) (esCons (eC (.str ("beat" : Str))) (esCons (eC (.str ("row" : Str))) (esCons (eC (.str ("notes" : Str))) (esCons (eC (.str ("paper" : Str))) (esCons (eC (.str ("text" : Str))) (esCons (eC (.str ("none" : Str))) (esNil))))))))))) (pA (eP1 (pIdxB true) (pN 1))))) (sNil)))))
def f_law_refusal : Fn := runFn 2 d_law_refusal
def d_law_told : Sm := sSeq (sPut (tgN 3) (eC .non)) (sSeq (sPut (tgN 4) (eC .non)) (sSeq (sTry 5 4 (sSeq (sPut (tgN 3) (eCall f_lot (esCons (eVar 0) (esCons (eVar 1) (esCons (eVar 2) (esNil)))))) (sNil))) (sSeq (sRet (eIf (eP2 pIs (pN 4) (pA (eC .non))) (eVar 3) (eCall f_law_refusal (esCons (eVar 4) (esNil))))) (sNil))))
def f_law_told : Fn := runFn 6 d_law_told
def d_best_begin : Sm := sSeq (sEx (eCall f_look_crowd (esCons (eVar 0) (esNil)))) (sSeq (sEx (eCall f_look_folk (esCons (eVar 0) (esCons (eVar 1) (esNil))))) (sSeq (sEx (eCall f_look_one (esCons (eVar 0) (esCons (eVar 2) (esNil))))) (sSeq (sPut (tgN 3) (eC .non)) (sSeq (sFor (iR1 (eCall f_round_of (esCons (eLst (esCons (eVar 0) (esNil))) (esNil)))) (tgN 4) (sSeq (sPut (tgN 5) (eGet1 (pA (eCall f_spread (esCons (eVar 0) (esCons (eVar 1) (esCons (eVar 4) (esCons (eTup (esNil)) (esNil))))))) (eVar 2))) (sSeq (sIf (eAnd (eP2 pIsNot (pN 5) (pA (eC .non))) (eOr (eP2 pIs (pN 3) (pA (eC .non))) (eP2 pLt (pA (eP2 pSub (pN 5) (pN 4))) (pA (eP2 pIdx (pN 3) (pA (eC (.int 1)))))))) (sSeq (sPut (tgN 3) (eTup (esCons (eVar 4) (esCons (eP2 pSub (pN 5) (pN 4)) (esNil))))) (sNil)) (sNil)) (sNil)))) (sSeq (sIf (eP2 pIs (pN 3) (pA (eC .non))) (sSeq (sRaise .none) (sNil)) (sNil)) (sSeq (sRet (eVar 3)) (sNil)))))))
def f_best_begin : Fn := runFn 6 d_best_begin
def d_silent : Sm := sSeq (sOwn 3 (eP1 pListK (pN 1))) (sSeq (sPut (tgN 4) (eCall f_round_of (esCons (eLst (esCons (eVar 0) (esNil))) (esNil)))) (sSeq (sPut (tgN 5) (eC (.int 0))) (sSeq (sWhile (eP2 pLt (pN 5) (pA (eP1 pLen (pN 3)))) (sSeq (sPut (tgN 6) (eP2 pIdx (pN 3) (pN 5))) (sSeq (sFor (iR1 (eVar 4)) (tgN 7) (sSeq (sIf (eAnd (eP2 pNeK (pN 6) (pN 2)) (eCall f_may_tell (esCons (eVar 0) (esCons (eVar 6) (esCons (eVar 7) (esCons (eTup (esNil)) (esNil))))))) (sSeq (sExt 3 (eLC (iP (pA (eCall f_ears (esCons (eVar 0) (esCons (eVar 6) (esCons (eVar 7) (esCons (eTup (esNil)) (esNil)))))))) [8] (tgN 8) (eP2 pNotInX (pN 8) (pN 3)) (eVar 8))) (sNil)) (sNil)) (sNil))) (sSeq (sAug 5 pAddI (eC (.int 1))) (sNil))))) (sSeq (sFz 3) (sSeq (sRet (eVar 3)) (sNil))))))
def f_silent : Fn := runFn 9 d_silent
def d_keepers : Sm := sSeq (sEx (eCall f_look_crowd (esCons (eVar 0) (esNil)))) (sSeq (sEx (eCall f_look_folk (esCons (eVar 0) (esCons (eVar 1) (esNil))))) (sSeq (sEx (eCall f_look_one (esCons (eVar 0) (esCons (eVar 2) (esNil))))) (sSeq (sIf (eP2 pNotInX (pN 2) (pA (eCall f_closed (esCons (eVar 0) (esCons (eVar 1) (esNil)))))) (sSeq (sRaise .none) (sNil)) (sNil)) (sSeq (sOwn 3 (eLst (esNil))) (sSeq (sFor (iR1 (eP1 pLen (pA (eP2 pIdx (pN 0) (pA (eC (.int 1))))))) (tgN 4) (sSeq (sIf (eAnd (eP2 pNotInX (pN 4) (pN 1)) (eAnd (eP2 pNeK (pN 4) (pN 2)) (eP2 pNotInX (pN 2) (pA (eCall f_silent (esCons (eVar 0) (esCons (eVar 1) (esCons (eVar 4) (esNil))))))))) (sSeq (sApp 3 (eVar 4)) (sNil)) (sNil)) (sNil))) (sSeq (sFz 3) (sSeq (sRet (eVar 3)) (sNil))))))))
def f_keepers : Fn := runFn 5 d_keepers
def d_law_home : Sm := sSeq (sOwn 3 (eLC (iR1 (eVar 1)) [4] (tgN 4) (eP2 pNotInX (pN 4) (pN 2)) (eVar 4))) (sSeq (sFz 3) (sSeq (sRet (eCall f_law_pick (esCons (eVar 0) (esCons (eP2 pAdd (pA (eP2 pAdd (pA (eP2 pAdd (pN 3) (pN 3))) (pN 3))) (pA (eLst (esCons (eCall f_law_draw (esCons (eVar 0) (esCons (eVar 1) (esNil)))) (esNil))))) (esNil))))) (sNil)))
def f_law_home : Fn := runFn 5 d_law_home
def d_law_dumb : Sm := sSeq (sPut (tgN 4) (eP1 pListK (pN 1))) (sSeq (sPut (tgN 5) (eC (.int 0))) (sSeq (sWhile (eP2 pLt (pN 5) (pA (eP1 pLen (pN 4)))) (sSeq (sFor (iR1 (eIf (eP2 pNeK (pA (eP2 pIdx (pN 4) (pN 5))) (pN 2)) (eVar 3) (eC (.int 0)))) (tgN 6) (sSeq (sPut (tgN 7) (eCall f_law_let (esCons (eVar 0) (esCons (eP2 pIdx (pN 4) (pN 5)) (esCons (eVar 6) (esCons (eTup (esNil)) (esNil))))))) (sSeq (sPut (tgN 4) (eP2 pAdd (pN 4) (pA (eLC (iP (pA (eIf (eP2 pIs (pN 7) (pA (eC .non))) (eLst (esNil)) (eVar 7)))) [8] (tgN 8) (eP2 pNotInX (pN 8) (pN 4)) (eVar 8))))) (sNil)))) (sSeq (sPut (tgN 5) (eP2 pAdd (pN 5) (pA (eC (.int 1))))) (sNil)))) (sSeq (sRet (eVar 4)) (sNil))))
def f_law_dumb : Fn := runFn 9 d_law_dumb
def d_law_does : Sm := sSeq (sIf (eP2 pEq (pN 0) (pA (eC (.int 0)))) (sSeq (sRet (eCallG f_stand [] [0, 1, 2, 3] (esCons (eVar 1) (esCons (eVar 2) (esCons (eVar 3) (esNil)))) (esCons (eVar 4) (esNil)))) (sNil)) (sNil)) (sSeq (sRet (eIf (eP2 pEq (pN 0) (pA (eC (.int 1)))) (eCallG f_hearers [] [0, 1, 2, 3] (esCons (eVar 1) (esCons (eVar 2) (esCons (eVar 3) (esNil)))) (esCons (eVar 4) (esNil))) (eCallG f_is_let [] [0, 1, 2, 3] (esCons (eVar 1) (esCons (eVar 2) (esCons (eVar 3) (esNil)))) (esCons (eVar 4) (esNil))))) (sNil))
def f_law_does : Fn := runFn 5 d_law_does
def d_law_rows : Sm := sSeq (sIf (eP2 pEq (pN 0) (pA (eC (.int 3)))) (sSeq (sRet (eCallG f_have [] [0, 1, 2, 3, 4] (esCons (eVar 1) (esCons (eVar 2) (esCons (eVar 3) (esNil)))) (esCons (eVar 4) (esCons (eVar 5) (esNil))))) (sNil)) (sNil)) (sSeq (sIf (eP2 pEq (pN 0) (pA (eC (.int 4)))) (sSeq (sRet (eCallG f_falls [] [0, 1, 2, 3, 4] (esCons (eVar 1) (esCons (eVar 2) (esCons (eVar 3) (esNil)))) (esCons (eVar 4) (esCons (eVar 5) (esNil))))) (sNil)) (sNil)) (sSeq (sIf (eP2 pEq (pN 0) (pA (eC (.int 5)))) (sSeq (sRet (eCallG f_is_right [] [0, 1, 2, 3, 4] (esCons (eVar 1) (esCons (eVar 2) (esCons (eVar 3) (esNil)))) (esCons (eVar 4) (esCons (eVar 5) (esNil))))) (sNil)) (sNil)) (sSeq (sRet (eCallG f_earliest [] [0, 1, 2, 3] (esCons (eVar 1) (esCons (eVar 2) (esNil))) (esCons (eVar 4) (esCons (eVar 5) (esNil))))) (sNil))))
def f_law_rows : Fn := runFn 6 d_law_rows
def d_law_asked : Sm := sSeq (sPut (tgN 6) (eC .non)) (sSeq (sTry 7 6 (sSeq (sIf (eP2 pLt (pN 0) (pA (eC (.int 3)))) (sSeq (sEx (eCall f_law_does (esCons (eVar 0) (esCons (eVar 1) (esCons (eVar 2) (esCons (eVar 4) (esCons (eVar 5) (esNil)))))))) (sNil)) (sSeq (sEx (eCall f_law_rows (esCons (eVar 0) (esCons (eVar 1) (esCons (eVar 2) (esCons (eVar 3) (esCons (eVar 4) (esCons (eVar 5) (esNil))))))))) (sNil))) (sNil))) (sSeq (sRet (eIf (eP2 pIs (pN 6) (pA (eC .non))) (eC (.str ("told" : Str))) (eCall f_law_refusal (esCons (eVar 6) (esNil))))) (sNil)))
def f_law_asked : Fn := runFn 8 d_law_asked
def d_law_goals : Sm := sSeq (sPut (tgN 5) (eC .non)) (sSeq (sTry 6 5 (sSeq (sIf (eP2 pEq (pN 0) (pA (eC (.int 0)))) (sSeq (sEx (eCall f_ever (esCons (eVar 1) (esCons (eVar 2) (esNil))))) (sNil)) (sSeq (sIf (eP2 pEq (pN 0) (pA (eC (.int 1)))) (sSeq (sEx (eCall f_lot (esCons (eVar 1) (esCons (eVar 2) (esCons (eVar 3) (esNil)))))) (sNil)) (sSeq (sIf (eP2 pEq (pN 0) (pA (eC (.int 2)))) (sSeq (sEx (eCall f_shows (esCons (eVar 1) (esCons (eVar 4) (esCons (eVar 2) (esCons (eVar 3) (esNil))))))) (sNil)) (sSeq (sIf (eP2 pEq (pN 0) (pA (eC (.int 3)))) (sSeq (sEx (eCall f_best_begin (esCons (eVar 1) (esCons (eVar 2) (esCons (eVar 3) (esNil)))))) (sNil)) (sSeq (sIf (eP2 pEq (pN 0) (pA (eC (.int 4)))) (sSeq (sEx (eCall f_keepers (esCons (eVar 1) (esCons (eVar 2) (esCons (eVar 3) (esNil)))))) (sNil)) (sSeq (sEx (eCallG f_needless [(.int 0), (.tup [])] [0, 1, 2, 3, 4, 5] (esCons (eVar 1) (esCons (eVar 2) (esCons (eVar 4) (esCons (eVar 3) (esNil))))) (esNil))) (sNil))) (sNil))) (sNil))) (sNil))) (sNil))) (sNil))) (sSeq (sRet (eIf (eP2 pIs (pN 5) (pA (eC .non))) (eC (.str ("told" : Str))) (eCall f_law_refusal (esCons (eVar 5) (esNil))))) (sNil)))
def f_law_goals : Fn := runFn 7 d_law_goals
def d_law_kinds : Sm := sSeq (sPut (tgN 0) (eTup (esCons (eTup (esCons (eC (.int 0)) (esCons (eC (.int 0)) (esCons (eC (.int 0)) (esNil))))) (esNil)))) (sSeq (sPut (tgN 1) (eLst (esCons (eTup (esCons (eC (.int 0)) (esCons (eTup (esCons (eVar 0) (esCons (eVar 0) (esNil)))) (esCons (eTup (esNil)) (esNil))))) (esCons (eTup (esCons (eC (.int 18)) (esCons (eP2 pMul (pA (eTup (esCons (eP2 pMul (pN 0) (pA (eC (.int 6)))) (esNil)))) (pA (eC (.int 8)))) (esCons (eTup (esCons (eC (.int 0)) (esCons (eC (.int 7)) (esNil)))) (esNil))))) (esCons (eTup (esCons (eC (.int 1)) (esCons (eTup (esCons (eTup (esCons (eTup (esCons (eC (.int 9)) (esCons (eP2 pSub (pA (eC (.int 0))) (pA (eC (.int 9)))) (esCons (eC (.int 3)) (esNil))))) (esNil))) (esCons (eTup (esCons (eTup (esCons (eP2 pSub (pA (eC (.int 0))) (pA (eC (.int 9)))) (esCons (eC (.int 9)) (esCons (eC (.int 0)) (esNil))))) (esNil))) (esNil)))) (esCons (eTup (esCons (eC (.int 1)) (esNil))) (esNil))))) (esNil)))))) (sSeq (sPut (tgN 2) (eLst (esCons (eC .non) (esCons (eC (.int 5)) (esCons (eTup (esCons (eC (.int 1)) (esCons (eTup (esCons (eVar 0) (esCons (eVar 0) (esNil)))) (esNil)))) (esCons (eLst (esCons (eC (.int 1)) (esCons (eTup (esCons (eVar 0) (esCons (eVar 0) (esNil)))) (esCons (eTup (esNil)) (esNil))))) (esCons (eTup (esCons (eP2 pSub (pA (eC (.int 0))) (pA (eC (.int 1)))) (esCons (eTup (esCons (eVar 0) (esCons (eVar 0) (esNil)))) (esCons (eTup (esNil)) (esNil))))) (esCons (eTup (esCons (eC (.int 19)) (esCons (eTup (esCons (eVar 0) (esCons (eVar 0) (esNil)))) (esCons (eTup (esNil)) (esNil))))) (esCons (eTup (esCons (eC (.int 1)) (esCons (eTup (esCons (eVar 0) (esNil))) (esCons (eTup (esNil)) (esNil))))) (esCons (eTup (esCons (eC (.int 1)) (esCons (eP2 pMul (pA (eTup (esCons (eVar 0) (esNil)))) (pA (eC (.int 9)))) (esCons (eTup (esNil)) (esNil))))) (esNil))))))))))) (sSeq (sPut (tgN 2) (eP2 pAdd (pN 2) (pA (eLst (esCons (eTup (esCons (eC (.int 1)) (esCons (eLst (esCons (eVar 0) (esCons (eVar 0) (esNil)))) (esCons (eTup (esNil)) (esNil))))) (esCons (eTup (esCons (eC (.int 1)) (esCons (eTup (esCons (eVar 0) (esCons (eTup (esNil)) (esNil)))) (esCons (eTup (esNil)) (esNil))))) (esCons (eTup (esCons (eC (.int 1)) (esCons (eTup (esCons (eVar 0) (esCons (eP2 pMul (pN 0) (pA (eC (.int 7)))) (esNil)))) (esCons (eTup (esNil)) (esNil))))) (esCons (eTup (esCons (eC (.int 1)) (esCons (eTup (esCons (eVar 0) (esCons (eTup (esCons (eTup (esCons (eC (.int 10)) (esCons (eC (.int 0)) (esCons (eC (.int 0)) (esNil))))) (esNil))) (esNil)))) (esCons (eTup (esNil)) (esNil))))) (esCons (eTup (esCons (eC (.int 1)) (esCons (eTup (esCons (eVar 0) (esCons (eTup (esCons (eTup (esCons (eC (.int 0)) (esCons (eC (.int 0)) (esCons (eC (.int 4)) (esNil))))) (esNil))) (esNil)))) (esCons (eTup (esNil)) (esNil))))) (esNil)))))))))) (sSeq (sPut (tgN 2) (eP2 pAdd (pN 2) (pA (eLst (esCons (eTup (esCons (eC (.int 1)) (esCons (eTup (esCons (eVar 0) (esCons (eTup (esCons (eTup (esCons (eC (.int 0)) (esCons (eC (.int 0)) (esNil)))) (esNil))) (esNil)))) (esCons (eTup (esNil)) (esNil))))) (esCons (eTup (esCons (eC (.int 1)) (esCons (eTup (esCons (eVar 0) (esCons (eTup (esCons (eTup (esCons (eC (.int 0)) (esCons (eC (.bl true)) (esCons (eC (.int 0)) (esNil))))) (esNil))) (esNil)))) (esCons (eTup (esNil)) (esNil))))) (esCons (eTup (esCons (eC (.int 1)) (esCons (eTup (esCons (eVar 0) (esCons (eVar 0) (esNil)))) (esCons (eTup (esCons (eC (.int 2)) (esNil))) (esNil))))) (esCons (eTup (esCons (eC (.int 1)) (esCons (eTup (esCons (eVar 0) (esCons (eVar 0) (esNil)))) (esCons (eTup (esCons (eC (.int 1)) (esCons (eC (.int 0)) (esNil)))) (esNil))))) (esCons (eTup (esCons (eC (.int 1)) (esCons (eTup (esCons (eVar 0) (esCons (eVar 0) (esNil)))) (esCons (eLst (esCons (eC (.int 0)) (esNil))) (esNil))))) (esNil)))))))))) (sSeq (sRet (eAnd (eP2 pEq (pA (eLC (iP (pN 1)) [3] (tgN 3) (eYes) (eCall f_is_crowd (esCons (eVar 3) (esNil))))) (pA (eP2 pMul (pA (eLst (esCons (eC (.bl true)) (esNil)))) (pA (eC (.int 3)))))) (eP2 pEq (pA (eLC (iP (pN 2)) [3] (tgN 3) (eYes) (eCall f_is_crowd (esCons (eVar 3) (esNil))))) (pA (eP2 pMul (pA (eLst (esCons (eC (.bl false)) (esNil)))) (pA (eC (.int 18)))))))) (sNil))))))
def f_law_kinds : Fn := runFn 4 d_law_kinds
def d_law_lates : Sm := sSeq (sFor (iP (pA (eLst (esCons (eC .non) (esCons (eP2 pSub (pA (eC (.int 0))) (pA (eC (.int 1)))) (esCons (eC (.int 1000000000001)) (esCons (eC (.bl true)) (esCons (eC (.str ("1" : Str))) (esNil))))))))) (tgN 1) (sSeq (sIf (eP2 pNeK (pA (eLC (iR1 (eC (.int 3))) [4] (tgN 4) (eYes) (eCall f_law_asked (esCons (eVar 4) (esCons (eVar 0) (esCons (eC (.int 0)) (esCons (eC .non) (esCons (eVar 1) (esCons (eC .non) (esNil)))))))))) (pA (eP2 pMul (pA (eLst (esCons (eC (.str ("beat" : Str))) (esNil)))) (pA (eC (.int 3)))))) (sSeq (sRet (eC (.bl false))) (sNil)) (sNil)) (sSeq (sIf (eP2 pNeK (pA (eLC (iP (pA (eLst (esCons (eC (.int 3)) (esCons (eC (.int 4)) (esCons (eC (.int 5)) (esCons (eC (.int 6)) (esNil)))))))) [4] (tgN 4) (eYes) (eCall f_law_asked (esCons (eVar 4) (esCons (eVar 0) (esCons (eTup (esCons (eC (.int 0)) (esNil))) (esCons (eC .non) (esCons (eVar 1) (esCons (eC .non) (esNil)))))))))) (pA (eP2 pMul (pA (eLst (esCons (eC (.str ("beat" : Str))) (esNil)))) (pA (eC (.int 4)))))) (sSeq (sRet (eC (.bl false))) (sNil)) (sNil)) (sNil)))) (sSeq (sPut (tgN 2) (eLst (esCons (eC .non) (esCons (eLst (esNil)) (esCons (eTup (esCons (eTup (esCons (eC (.int 0)) (esCons (eC (.int 1)) (esNil)))) (esNil))) (esCons (eTup (esCons (eTup (esCons (eC (.int 0)) (esCons (eC (.int 1)) (esCons (eC (.int 0)) (esNil))))) (esNil))) (esCons (eTup (esCons (eTup (esCons (eC (.int 0)) (esCons (eC (.int 1)) (esCons (eC (.int 7)) (esNil))))) (esNil))) (esCons (eTup (esCons (eTup (esCons (eC (.int 9)) (esCons (eC (.int 1)) (esCons (eC (.int 1)) (esNil))))) (esNil))) (esCons (eTup (esCons (eTup (esCons (eC (.int 5)) (esCons (eC (.int 1)) (esCons (eC (.int 1)) (esNil))))) (esNil))) (esCons (eTup (esCons (eTup (esCons (eC (.int 1)) (esCons (eC (.int 1)) (esCons (eC (.int 1)) (esNil))))) (esCons (eTup (esCons (eC (.int 0)) (esCons (eC (.int 1)) (esCons (eC (.int 1)) (esNil))))) (esNil)))) (esCons (eTup (esCons (eTup (esCons (eC (.int 0)) (esCons (eC (.int 1)) (esCons (eC (.int 1)) (esNil))))) (esCons (eTup (esCons (eC (.int 0)) (esCons (eC (.int 2)) (esCons (eC (.int 1)) (esNil))))) (esNil)))) (esCons (eTup (esCons (eTup (esCons (eC (.int 0)) (esCons (eP2 pSub (pA (eC (.int 0))) (pA (eC (.int 1)))) (esCons (eC (.int 1)) (esNil))))) (esNil))) (esCons (eTup (esCons (eC (.int 5)) (esNil))) (esNil)))))))))))))) (sSeq (sFor (iP (pN 2)) (tgN 1) (sSeq (sIf (eP2 pNeK (pA (eLC (iR1 (eC (.int 3))) [4] (tgN 4) (eYes) (eCall f_law_asked (esCons (eVar 4) (esCons (eVar 0) (esCons (eC (.int 0)) (esCons (eC .non) (esCons (eC (.int 5)) (esCons (eVar 1) (esNil)))))))))) (pA (eP2 pMul (pA (eLst (esCons (eC (.str ("beat" : Str))) (esNil)))) (pA (eC (.int 3)))))) (sSeq (sRet (eC (.bl false))) (sNil)) (sNil)) (sSeq (sIf (eP2 pNeK (pA (eLC (iP (pA (eLst (esCons (eC (.int 3)) (esCons (eC (.int 4)) (esCons (eC (.int 5)) (esCons (eC (.int 6)) (esNil)))))))) [4] (tgN 4) (eYes) (eCall f_law_asked (esCons (eVar 4) (esCons (eVar 0) (esCons (eTup (esCons (eC (.int 0)) (esNil))) (esCons (eC .non) (esCons (eC (.int 5)) (esCons (eVar 1) (esNil)))))))))) (pA (eP2 pMul (pA (eLst (esCons (eC (.str ("beat" : Str))) (esNil)))) (pA (eC (.int 4)))))) (sSeq (sRet (eC (.bl false))) (sNil)) (sNil)) (sNil)))) (sSeq (sPut (tgN 3) (eLst (esCons (eTup (esCons (eTup (esCons (eC (.int 0)) (esCons (eC (.int 205)) (esCons (eC (.int 1)) (esNil))))) (esNil))) (esCons (eTup (esCons (eTup (esCons (eC (.int 0)) (esCons (eC (.int 206)) (esCons (eC (.int 1)) (esNil))))) (esNil))) (esNil))))) (sSeq (sRet (eAnd (eP2 pEq (pA (eLC (iP (pN 3)) [5] (tgN 5) (eYes) (eCall f_law_asked (esCons (eC (.int 6)) (esCons (eVar 0) (esCons (eTup (esCons (eC (.int 0)) (esNil))) (esCons (eC .non) (esCons (eC (.int 5)) (esCons (eVar 5) (esNil)))))))))) (pA (eLst (esCons (eC (.str ("told" : Str))) (esCons (eC (.str ("beat" : Str))) (esNil)))))) (eP2 pEq (pA (eCall f_law_asked (esCons (eC (.int 3)) (esCons (eVar 0) (esCons (eTup (esCons (eC (.int 0)) (esNil))) (esCons (eLst (esNil)) (esCons (eC (.int 5)) (esCons (eP2 pIdx (pN 3) (pA (eC (.int 1)))) (esNil))))))))) (pA (eC (.str ("told" : Str))))))) (sNil)))))
def f_law_lates : Fn := runFn 6 d_law_lates
def d_look_by : Sm := sSeq (sIf (eAnd (eP2 pIsNot (pN 1) (pA (eC .non))) (eNot (eCall f_is_whole (esCons (eVar 1) (esCons (eVar 0) (esCons (eP2 pAdd (pN 0) (pA (eC (.int 600)))) (esNil))))))) (sSeq (sRaise .beat) (sNil)) (sNil)) (sNil)
def f_look_by : Fn := runFn 2 d_look_by
def d_last_of : Sm := sSeq (sRet (eIf (eP2 pIsNot (pN 2) (pA (eC .non))) (eVar 2) (eP2 pAdd (pN 1) (pA (eP2 pMul (pA (eCall f_round_of (esCons (eLst (esCons (eVar 0) (esNil))) (esNil)))) (pA (eP2 pAdd (pA (eP1 pLen (pA (eP2 pIdx (pN 0) (pA (eC (.int 1))))))) (pA (eC (.int 1)))))))))) (sNil)
def f_last_of : Fn := runFn 3 d_last_of
def d_first_whisper : Sm := sSeq (sWhile (eC (.bl true)) (sSeq (sFor (iP (pN 1)) (tgN 4) (sSeq (sIf (eCall f_may_tell (esCons (eVar 0) (esCons (eVar 4) (esCons (eVar 2) (esCons (eTup (esNil)) (esNil)))))) (sSeq (sIf (eP1 pAny (pA (eLC (iP (pA (eCall f_ears (esCons (eVar 0) (esCons (eVar 4) (esCons (eVar 2) (esCons (eTup (esNil)) (esNil)))))))) [5] (tgN 5) (eYes) (eP2 pGt (pA (eGet2 (pN 3) (eVar 5) (eOp1 pNeg (eC (.int 1))))) (pN 2))))) (sSeq (sRet (eTup (esCons (eVar 2) (esCons (eVar 4) (esNil))))) (sNil)) (sNil)) (sNil)) (sNil)) (sNil))) (sSeq (sAug 2 pAddI (eC (.int 1))) (sNil)))) (sNil)
def f_first_whisper : Fn := runFn 6 d_first_whisper
def d_law_picks : Sm := sSeq (sPut (tgN 1) (eLst (esCons (eTup (esNil)) (esNil)))) (sSeq (sFor (iP (pN 0)) (tgN 2) (sSeq (sPut (tgN 1) (eP2 pAdd (pN 1) (pA (eLC (iP (pN 1)) [3] (tgN 3) (eYes) (eP2 pAdd (pN 3) (pA (eTup (esCons (eVar 2) (esNil))))))))) (sNil))) (sSeq (sRet (eVar 1)) (sNil)))
def f_law_picks : Fn := runFn 4 d_law_picks
def d_law_least : Sm := sSeq (sOwn 2 (eLC (iP (pN 0)) [3] (tgN 3) (eP2 pEq (pA (eLC (iP (pN 1)) [4] (tgN 4) (eP2 pNotInX (pN 4) (pN 3)) (eVar 4))) (pA (eLst (esNil)))) (eP2 pIdx (pN 0) (pN 3)))) (sSeq (sFz 2) (sSeq (sRet (eIf (eP2 pNeK (pN 2) (pA (eLst (esNil)))) (eP1 pMinL (pN 2)) (eC .non))) (sNil)))
def f_law_least : Fn := runFn 5 d_law_least
def d_law_late_friend : Sm := sSeq (sPut (tgN 2) (eP2 pAdd (pA (eC (.int 4))) (pA (eCall f_law_draw (esCons (eVar 0) (esCons (eC (.int 3)) (esNil))))))) (sSeq (sOwn 3 (eLC (iR1 (eVar 1)) [5] (tgN 5) (eYes) (eLC (iR1 (eVar 2)) [8] (tgN 8) (eYes) (eTup (esCons (eP2 pSub (pA (eP2 pMul (pA (eC (.int 3))) (pN 5))) (pA (eC (.int 9)))) (esCons (eC (.int 9)) (esCons (eC (.int 0)) (esNil)))))))) (sSeq (sFz 3) (sSeq (sPut (tgN 4) (eP1 pSorted (pA (eLst (esCons (eCall f_law_draw (esCons (eVar 0) (esCons (eVar 2) (esNil)))) (esCons (eCall f_law_draw (esCons (eVar 0) (esCons (eVar 2) (esNil)))) (esCons (eCall f_law_draw (esCons (eVar 0) (esCons (eVar 2) (esNil)))) (esNil)))))))) (sSeq (sFor (iR1 (eC (.int 3))) (tgN 5) (sSeq (sPut (tgT [6, 7]) (eP2 pIdx (pA (eLst (esCons (eTup (esCons (eC (.int 0)) (esCons (eC (.int 1)) (esNil)))) (esCons (eTup (esCons (eC (.int 1)) (esCons (eC (.int 2)) (esNil)))) (esCons (eTup (esCons (eC (.int 0)) (esCons (eC (.int 2)) (esNil)))) (esNil)))))) (pN 5))) (sSeq (sSetC (eP2 pIdx (pN 3) (pN 6)) (eP2 pIdx (pN 4) (pN 5)) (eTup (esCons (eC (.int 0)) (esCons (eC (.int 0)) (esCons (eC (.int 0)) (esNil)))))) (sSeq (sSetC (eP2 pIdx (pN 3) (pN 7)) (eP2 pIdx (pN 4) (pN 5)) (eTup (esCons (eC (.int 1)) (esCons (eC (.int 0)) (esCons (eC (.int 2)) (esNil)))))) (sNil))))) (sSeq (sRet (eTup (esCons (eTup (esCons (eC (.int 1)) (esCons (eP1 pTuple (pA (eLC (iP (pN 3)) [9] (tgN 9) (eYes) (eP1 pTuple (pN 9))))) (esCons (eTup (esNil)) (esNil))))) (esCons (eTup (esCons (eC (.int 0)) (esNil))) (esCons (eC (.int 2)) (esNil)))))) (sNil))))))
def f_law_late_friend : Fn := runFn 10 d_law_late_friend
def d_look_few : Sm := sSeq (sEx (eCall f_look_crowd (esCons (eVar 0) (esNil)))) (sSeq (sIf (eP2 pGt (pA (eP1 pLen (pA (eP2 pIdx (pN 0) (pA (eC (.int 1))))))) (pN 1)) (sSeq (sRaise .crowd) (sNil)) (sNil)) (sNil))
def f_look_few : Fn := runFn 2 d_look_few
def d_look_homes : Sm := sSeq (sEx (eCall f_look_few (esCons (eVar 0) (esCons (eC (.int 6)) (esNil))))) (sSeq (sEx (eCall f_look_folk (esCons (eVar 0) (esCons (eVar 1) (esNil))))) (sSeq (sEx (eCall f_look_folk (esCons (eVar 0) (esCons (eVar 2) (esNil))))) (sSeq (sEx (eCall f_look_beat (esCons (eVar 3) (esNil)))) (sSeq (sIf (eNot (eCall f_is_whole (esCons (eVar 4) (esCons (eC (.int 0)) (esCons (eC (.int 40)) (esNil)))))) (sSeq (sRaise .beat) (sNil)) (sNil)) (sNil)))))
def f_look_homes : Fn := runFn 5 d_look_homes
def d_joined : Sm := sSeq (sRet (eP1 pTuple (pA (eP1 pSorted (pA (eDC (iP (pA (eP2 pAdd (pN 0) (pN 1)))) [2] (tgN 2) (eYes) (eVar 2) (eC (.bl true)))))))) (sNil)
def f_joined : Fn := runFn 3 d_joined
def d_behind : Sm := sSeq (sPut (tgN 4) (eVar 1)) (sSeq (sFor (iP (pN 2)) (tgN 5) (sSeq (sPut (tgN 4) (eCall f_joined (esCons (eVar 4) (esCons (eCall f_ears (esCons (eVar 0) (esCons (eVar 5) (esCons (eVar 3) (esCons (eTup (esNil)) (esNil)))))) (esNil))))) (sNil))) (sSeq (sRet (eVar 4)) (sNil)))
def f_behind : Fn := runFn 6 d_behind
def d_has_all : Sm := sSeq (sRet (eP1 pAll (pA (eLC (iP (pN 1)) [2] (tgN 2) (eYes) (eP2 pInX (pN 2) (pN 0)))))) (sNil)
def f_has_all : Fn := runFn 3 d_has_all
def d_law_whole : Sm := sSeq (sRet (eAnd (eP1 (pIsi .int) (pN 0)) (eNot (eP1 (pIsi .bool) (pN 0))))) (sNil)
def f_law_whole : Fn := runFn 1 d_law_whole
def d_near : Sm := sSeq (sPut (tgN 3) (eP1 pLen (pA (eP2 pIdx (pN 0) (pA (eC (.int 1))))))) (sSeq (sRet (eP1 pTuple (pA (eLC (iR1 (eVar 3)) [4] (tgN 4) (eOr (eP2 pEq (pN 4) (pN 1)) (eCall f_heard (esCons (eVar 0) (esCons (eVar 1) (esCons (eVar 4) (esCons (eVar 2) (esCons (eTup (esNil)) (esNil)))))))) (eVar 4))))) (sNil))
def f_near : Fn := runFn 5 d_near
def d_look_suspects : Sm := sSeq (sIf (eP2 pEq (pN 0) (pA (eTup (esNil)))) (sSeq (sRaise .folk) (sNil)) (sNil)) (sNil)
def f_look_suspects : Fn := runFn 1 d_look_suspects
def d_look_notes : Sm := sSeq (sEx (eCall f_look_few (esCons (eVar 0) (esCons (eC (.int 5)) (esNil))))) (sSeq (sEx (eCall f_look_one (esCons (eVar 0) (esCons (eVar 1) (esNil))))) (sSeq (sEx (eCall f_look_folk (esCons (eVar 0) (esCons (eVar 3) (esNil))))) (sSeq (sEx (eCall f_look_beat (esCons (eVar 4) (esNil)))) (sSeq (sIf (eOr (eNot (eP1 (pIsi .list) (pN 2))) (eP2 pGt (pA (eP1 pLen (pN 2))) (pA (eC (.int 12))))) (sSeq (sRaise .notes) (sNil)) (sNil)) (sSeq (sFor (iEn (pN 2)) (tgT [5, 6]) (sSeq (sPut (tgN 7) (eCall f_near (esCons (eVar 0) (esCons (eVar 1) (esCons (eP2 pAdd (pN 4) (pN 5)) (esNil)))))) (sSeq (sIf (eOr (eNot (eCall f_is_folk (esCons (eVar 6) (esCons (eP1 pLen (pA (eP2 pIdx (pN 0) (pA (eC (.int 1)))))) (esNil))))) (eNot (eP1 pAll (pA (eLC (iP (pN 6)) [8] (tgN 8) (eYes) (eP2 pInX (pN 8) (pN 7))))))) (sSeq (sRaise .notes) (sNil)) (sNil)) (sNil)))) (sNil))))))
def f_look_notes : Fn := runFn 9 d_look_notes
def d_law_near : Sm := sSeq (sPut (tgN 3) (eP1 pLen (pA (eP2 pIdx (pN 0) (pA (eC (.int 1))))))) (sSeq (sRet (eLC (iR1 (eVar 3)) [4] (tgN 4) (eOr (eP2 pEq (pN 4) (pN 1)) (eCall f_law_hears (esCons (eVar 0) (esCons (eVar 1) (esCons (eVar 4) (esCons (eVar 2) (esCons (eTup (esNil)) (esNil)))))))) (eVar 4))) (sNil))
def f_law_near : Fn := runFn 5 d_law_near
def d_noted : Sm := sSeq (sEx (eCall f_look_few (esCons (eVar 0) (esCons (eC (.int 5)) (esNil))))) (sSeq (sEx (eCall f_look_one (esCons (eVar 0) (esCons (eVar 1) (esNil))))) (sSeq (sEx (eCall f_look_row (esCons (eVar 0) (esCons (eVar 2) (esNil))))) (sSeq (sEx (eCall f_look_beat (esCons (eVar 3) (esNil)))) (sSeq (sIf (eOr (eNot (eP1 (pIsi .int) (pN 4))) (eOr (eP1 (pIsi .bool) (pN 4)) (eNot (eChain pLe pLe (eC (.int 0)) (eVar 4) (eC (.int 12)))))) (sSeq (sRaise .notes) (sNil)) (sNil)) (sSeq (sOwn 5 (eLst (esNil))) (sSeq (sFor (iR1 (eVar 4)) (tgN 6) (sSeq (sPut (tgN 7) (eCall f_near (esCons (eVar 0) (esCons (eVar 1) (esCons (eP2 pAdd (pN 3) (pN 6)) (esNil)))))) (sSeq (sApp 5 (eP1 pTuple (pA (eLC (iP (pN 7)) [8] (tgN 8) (eP2 pInX (pA (eTup (esCons (eP2 pAdd (pN 3) (pN 6)) (esCons (eVar 8) (esNil))))) (pN 2)) (eVar 8))))) (sNil)))) (sSeq (sFz 5) (sSeq (sRet (eVar 5)) (sNil)))))))))
def f_noted : Fn := runFn 9 d_noted
def d_agrees : Sm := sSeq (sEx (eCall f_look_notes (esCons (eVar 0) (esCons (eVar 1) (esCons (eVar 2) (esCons (eTup (esNil)) (esCons (eVar 5) (esNil)))))))) (sSeq (sEx (eCall f_look_one (esCons (eVar 0) (esCons (eVar 3) (esNil))))) (sSeq (sEx (eCall f_look_row (esCons (eVar 0) (esCons (eVar 4) (esNil))))) (sSeq (sIf (eP1 pAny (pA (eLC (iP (pN 4)) [6, 7] (tgT [6, 7]) (eYes) (eP2 pGe (pN 6) (pA (eP2 pAdd (pN 5) (pA (eP1 pLen (pN 2))))))))) (sSeq (sRet (eC (.bl false))) (sNil)) (sNil)) (sSeq (sIf (eP2 pNeK (pA (eP2 pIdx (pA (eCall f_passed_on (esCons (eVar 0) (esCons (eTup (esCons (eVar 3) (esNil))) (esCons (eVar 4) (esCons (eVar 5) (esCons (eTup (esNil)) (esNil)))))))) (pA (eC (.int 1))))) (pA (eLst (esNil)))) (sSeq (sRet (eC (.bl false))) (sNil)) (sNil)) (sSeq (sRet (eP2 pEq (pA (eCallG f_noted [] [0, 1, 2, 3, 4] (esCons (eVar 0) (esCons (eVar 1) (esCons (eVar 4) (esNil)))) (esCons (eVar 5) (esCons (eP1 pLen (pN 2)) (esNil))))) (pN 2))) (sNil))))))
def f_agrees : Fn := runFn 8 d_agrees
def d_law_shown : Sm := sSeq (sPut (tgN 7) (eCall f_law_told (esCons (eVar 0) (esCons (eVar 1) (esCons (eVar 2) (esCons (eVar 3) (esCons (eVar 4) (esCons (eVar 5) (esNil))))))))) (sSeq (sIf (eOr (eP2 pEq (pN 6) (pA (eC (.str ("not" : Str))))) (eP2 pEq (pN 7) (pA (eC (.str ("none" : Str)))))) (sSeq (sRet (eAnd (eP2 pEq (pN 6) (pA (eC (.str ("not" : Str))))) (eP2 pEq (pN 7) (pA (eC (.str ("none" : Str))))))) (sNil)) (sNil)) (sSeq (sPut (tgT [11, 12]) (eVar 7)) (sSeq (sPut (tgN 8) (eCallG f_agrees [] [0, 1, 2, 3, 4, 5] (esCons (eVar 0) (esCons (eVar 1) (esCons (eVar 2) (esCons (eVar 11) (esCons (eVar 12) (esNil)))))) (esCons (eVar 5) (esNil)))) (sSeq (sIf (eOr (eP2 pNotInX (pN 11) (pN 3)) (eP2 pIsNot (pN 8) (pA (eC (.bl true))))) (sSeq (sRet (eC (.bl false))) (sNil)) (sNil)) (sSeq (sPut (tgN 9) (eP2 pIdx (pA (eCallG f_have [(.tup [])] [0, 1, 2, 4, 3] (esCons (eVar 0) (esCons (eTup (esCons (eVar 11) (esNil))) (esCons (eVar 12) (esNil)))) (esCons (eVar 5) (esNil)))) (pN 4))) (sSeq (sIf (eOr (eP2 pIs (pN 9) (pA (eC .non))) (eP2 pGt (pN 9) (pA (eP2 pAdd (pN 5) (pA (eP1 pLen (pN 2))))))) (sSeq (sRet (eC (.bl false))) (sNil)) (sNil)) (sSeq (sPut (tgN 10) (eP1 pTuple (pA (eLC (iP (pN 3)) [13] (tgN 13) (eP2 pLt (pN 13) (pN 11)) (eVar 13))))) (sSeq (sIf (eP2 pEq (pN 10) (pA (eTup (esNil)))) (sSeq (sRet (eC (.bl true))) (sNil)) (sNil)) (sSeq (sRet (eP2 pEq (pA (eCall f_law_told (esCons (eVar 0) (esCons (eVar 1) (esCons (eVar 2) (esCons (eVar 10) (esCons (eVar 4) (esCons (eVar 5) (esNil))))))))) (pA (eC (.str ("none" : Str)))))) (sNil))))))))))
def f_law_shown : Fn := runFn 14 d_law_shown
def d_law_more : Sm := sSeq (sPut (tgN 8) (eC .non)) (sSeq (sTry 9 8 (sSeq (sIf (eP2 pEq (pN 0) (pA (eC (.int 0)))) (sSeq (sEx (eCallG f_agrees [] [0, 1, 2, 3, 4, 5] (esCons (eVar 1) (esCons (eVar 2) (esCons (eVar 3) (esCons (eVar 4) (esCons (eVar 5) (esNil)))))) (esCons (eVar 6) (esNil)))) (sNil)) (sSeq (sEx (eCallG f_noted [] [0, 1, 2, 3, 4] (esCons (eVar 1) (esCons (eVar 2) (esCons (eVar 5) (esNil)))) (esCons (eVar 6) (esCons (eVar 7) (esNil))))) (sNil))) (sNil))) (sSeq (sRet (eIf (eP2 pIs (pN 8) (pA (eC .non))) (eC (.str ("told" : Str))) (eCall f_law_refusal (esCons (eVar 8) (esNil))))) (sNil)))
def f_law_more : Fn := runFn 10 d_law_more
def d_look_two : Sm := sSeq (sEx (eCall f_look_few (esCons (eVar 0) (esCons (eC (.int 5)) (esNil))))) (sSeq (sEx (eCall f_look_folk (esCons (eVar 0) (esCons (eVar 1) (esNil))))) (sSeq (sEx (eCall f_look_one (esCons (eVar 0) (esCons (eVar 2) (esNil))))) (sSeq (sEx (eCall f_look_folk (esCons (eVar 0) (esCons (eVar 3) (esNil))))) (sSeq (sEx (eCall f_look_one (esCons (eVar 0) (esCons (eVar 4) (esNil))))) (sSeq (sEx (eCall f_look_beat (esCons (eVar 5) (esNil)))) (sNil))))))
def f_look_two : Fn := runFn 6 d_look_two
def d_is_over : Sm := sSeq (sRet (eAnd (eP1 pAll (pA (eLC (iP (pA (eP2 pIdx (pN 1) (pA (eC (.int 0)))))) [2] (tgN 2) (eYes) (eP2 pInX (pN 2) (pA (eP2 pIdx (pN 0) (pA (eC (.int 0))))))))) (eP1 pAll (pA (eLC (iP (pA (eP2 pIdx (pN 1) (pA (eC (.int 1)))))) [2] (tgN 2) (eYes) (eP2 pInX (pN 2) (pA (eP2 pIdx (pN 0) (pA (eC (.int 1))))))))))) (sNil)
def f_is_over : Fn := runFn 3 d_is_over
def d_best_pairs : Sm := sSeq (sPut (tgN 1) (eP1 pListK (pN 0))) (sSeq (sRet (eLC (iP (pN 1)) [2] (tgN 2) (eNot (eP1 pAny (pA (eLC (iP (pN 1)) [3] (tgN 3) (eYes) (eAnd (eP2 pNeK (pN 3) (pN 2)) (eCall f_is_over (esCons (eVar 3) (esCons (eVar 2) (esNil))))))))) (eVar 2))) (sNil))
def f_best_pairs : Fn := runFn 4 d_best_pairs
def d_alone_home : Sm := sSeq (sPut (tgN 4) (eVar 1)) (sSeq (sPut (tgN 5) (eVar 3)) (sSeq (sWhile (eP2 pNotInX (pN 2) (pN 4)) (sSeq (sPut (tgN 6) (eVar 4)) (sSeq (sFor (iP (pN 4)) (tgN 7) (sSeq (sIf (eCall f_may_tell (esCons (eVar 0) (esCons (eVar 7) (esCons (eVar 5) (esCons (eTup (esNil)) (esNil)))))) (sSeq (sPut (tgN 6) (eCall f_joined (esCons (eVar 6) (esCons (eCall f_ears (esCons (eVar 0) (esCons (eVar 7) (esCons (eVar 5) (esCons (eTup (esNil)) (esNil)))))) (esNil))))) (sNil)) (sNil)) (sNil))) (sSeq (sPut (tgN 4) (eVar 6)) (sSeq (sAug 5 pAddI (eC (.int 1))) (sNil)))))) (sSeq (sRet (eVar 5)) (sNil))))
def f_alone_home : Fn := runFn 8 d_alone_home
def d_cross : Sm := sSeq (sEx (eCall f_look_few (esCons (eVar 0) (esCons (eC (.int 5)) (esNil))))) (sSeq (sEx (eCall f_look_folk (esCons (eVar 0) (esCons (eVar 1) (esNil))))) (sSeq (sEx (eCall f_look_row (esCons (eVar 0) (esCons (eVar 2) (esNil))))) (sSeq (sEx (eCall f_look_folk (esCons (eVar 0) (esCons (eVar 3) (esNil))))) (sSeq (sEx (eCall f_look_row (esCons (eVar 0) (esCons (eVar 4) (esNil))))) (sSeq (sEx (eCall f_look_beat (esCons (eVar 5) (esNil)))) (sSeq (sIf (eP1 pAny (pA (eLC (iP (pN 2)) [6] (tgN 6) (eYes) (eP2 pInX (pN 6) (pN 4))))) (sSeq (sRet (eC (.bl false))) (sNil)) (sNil)) (sSeq (sRet (eAnd (eP2 pEq (pA (eP2 pIdx (pA (eCall f_passed_on (esCons (eVar 0) (esCons (eVar 1) (esCons (eVar 2) (esCons (eVar 5) (esCons (eTup (esNil)) (esNil)))))))) (pA (eC (.int 1))))) (pA (eLst (esNil)))) (eP2 pEq (pA (eP2 pIdx (pA (eCall f_passed_on (esCons (eVar 0) (esCons (eVar 3) (esCons (eVar 4) (esCons (eVar 5) (esCons (eTup (esNil)) (esNil)))))))) (pA (eC (.int 1))))) (pA (eLst (esNil)))))) (sNil))))))))
def f_cross : Fn := runFn 7 d_cross
def d_law_refused : Sm := sSeq (sFor (iP (pA (eLst (esCons (eC .non) (esCons (eC (.int 5)) (esCons (eTup (esCons (eC (.int 1)) (esCons (eP2 pMul (pA (eTup (esCons (eTup (esCons (eTup (esCons (eC (.int 0)) (esCons (eC (.int 0)) (esCons (eC (.int 0)) (esNil))))) (esNil))) (esNil)))) (pA (eC (.int 6)))) (esCons (eTup (esNil)) (esNil))))) (esNil))))))) (tgN 1) (sSeq (sIf (eP2 pNeK (pA (eLC (iR1 (eC (.int 3))) [2] (tgN 2) (eYes) (eCall f_law_asked (esCons (eVar 2) (esCons (eVar 1) (esCons (eC .non) (esCons (eC .non) (esCons (eC .non) (esCons (eC .non) (esCons (eC .non) (esNil))))))))))) (pA (eP2 pMul (pA (eLst (esCons (eC (.str ("crowd" : Str))) (esNil)))) (pA (eC (.int 3)))))) (sSeq (sRet (eC (.bl false))) (sNil)) (sNil)) (sNil))) (sSeq (sFor (iP (pA (eLst (esCons (eC .non) (esCons (eC (.int 0)) (esCons (eTup (esCons (eC (.int 9)) (esNil))) (esCons (eTup (esCons (eC (.int 1)) (esCons (eC (.int 0)) (esNil)))) (esNil)))))))) (tgN 1) (sSeq (sIf (eP2 pNeK (pA (eLC (iR1 (eC (.int 3))) [2] (tgN 2) (eYes) (eCall f_law_asked (esCons (eVar 2) (esCons (eVar 0) (esCons (eVar 1) (esCons (eC .non) (esCons (eC .non) (esCons (eC .non) (esCons (eC .non) (esNil))))))))))) (pA (eP2 pMul (pA (eLst (esCons (eC (.str ("folk" : Str))) (esNil)))) (pA (eC (.int 3)))))) (sSeq (sRet (eC (.bl false))) (sNil)) (sNil)) (sSeq (sIf (eP2 pNeK (pA (eLC (iR1 (eC (.int 3))) [2] (tgN 2) (eYes) (eCall f_law_asked (esCons (eVar 2) (esCons (eVar 0) (esCons (eTup (esCons (eC (.int 0)) (esNil))) (esCons (eIf (eP2 pEq (pN 2) (pA (eC (.int 2)))) (eLst (esNil)) (eC (.int 0))) (esCons (eVar 1) (esCons (eC .non) (esCons (eC .non) (esNil))))))))))) (pA (eP2 pMul (pA (eLst (esCons (eC (.str ("folk" : Str))) (esNil)))) (pA (eC (.int 3)))))) (sSeq (sRet (eC (.bl false))) (sNil)) (sNil)) (sNil)))) (sSeq (sFor (iP (pA (eLst (esCons (eC .non) (esCons (eC (.int 9)) (esCons (eTup (esCons (eC (.int 0)) (esNil))) (esCons (eC (.bl true)) (esNil)))))))) (tgN 1) (sSeq (sIf (eP2 pNeK (pA (eLC (iR1 (eC (.int 3))) [2] (tgN 2) (eYes) (eCall f_law_asked (esCons (eVar 2) (esCons (eVar 0) (esCons (eTup (esCons (eC (.int 0)) (esNil))) (esCons (eVar 1) (esCons (eC .non) (esCons (eC .non) (esCons (eC .non) (esNil))))))))))) (pA (eLst (esCons (eC (.str ("folk" : Str))) (esCons (eC (.str ("folk" : Str))) (esCons (eC (.str ("row" : Str))) (esNil))))))) (sSeq (sRet (eC (.bl false))) (sNil)) (sNil)) (sSeq (sIf (eP2 pNeK (pA (eLC (iR1 (eC (.int 3))) [2] (tgN 2) (eYes) (eCall f_law_asked (esCons (eVar 2) (esCons (eVar 0) (esCons (eTup (esCons (eC (.int 0)) (esNil))) (esCons (eIf (eP2 pEq (pN 2) (pA (eC (.int 2)))) (eLst (esNil)) (eC (.int 0))) (esCons (eTup (esCons (eC (.int 0)) (esNil))) (esCons (eVar 1) (esCons (eC .non) (esNil))))))))))) (pA (eLst (esCons (eC (.str ("folk" : Str))) (esCons (eC (.str ("folk" : Str))) (esCons (eC (.str ("row" : Str))) (esNil))))))) (sSeq (sRet (eC (.bl false))) (sNil)) (sNil)) (sNil)))) (sSeq (sFor (iP (pA (eLst (esCons (eC .non) (esCons (eP2 pSub (pA (eC (.int 0))) (pA (eC (.int 1)))) (esCons (eC (.int 1000000000001)) (esNil))))))) (tgN 1) (sSeq (sIf (eP2 pNeK (pA (eLC (iR1 (eC (.int 3))) [2] (tgN 2) (eYes) (eCall f_law_asked (esCons (eVar 2) (esCons (eVar 0) (esCons (eTup (esCons (eC (.int 0)) (esNil))) (esCons (eIf (eP2 pEq (pN 2) (pA (eC (.int 2)))) (eLst (esNil)) (eC (.int 0))) (esCons (eTup (esCons (eC (.int 0)) (esNil))) (esCons (eIf (eP2 pEq (pN 2) (pA (eC (.int 2)))) (eLst (esNil)) (eC (.int 0))) (esCons (eVar 1) (esNil))))))))))) (pA (eP2 pMul (pA (eLst (esCons (eC (.str ("beat" : Str))) (esNil)))) (pA (eC (.int 3)))))) (sSeq (sRet (eC (.bl false))) (sNil)) (sNil)) (sNil))) (sSeq (sRet (eC (.bl true))) (sNil)))))
def f_law_refused : Fn := runFn 3 d_law_refused
def d_parting : Sm := sSeq (sEx (eCall f_look_two (esCons (eVar 0) (esCons (eVar 1) (esNil))))) (sSeq (sFor (iR1 (eCall f_round_of (esCons (eLst (esCons (eVar 0) (esCons (eVar 1) (esNil)))) (esNil)))) (tgN 2) (sSeq (sFor (iR1 (eP1 pLen (pA (eP2 pIdx (pN 0) (pA (eC (.int 1))))))) (tgN 3) (sSeq (sIf (eP2 pNe2 (pA (eCall f_spread (esCons (eVar 0) (esCons (eTup (esCons (eVar 3) (esNil))) (esCons (eVar 2) (esCons (eTup (esNil)) (esNil))))))) (pA (eCall f_spread (esCons (eVar 1) (esCons (eTup (esCons (eVar 3) (esNil))) (esCons (eVar 2) (esCons (eTup (esNil)) (esNil)))))))) (sSeq (sRet (eTup (esCons (eVar 2) (esCons (eVar 3) (esNil))))) (sNil)) (sNil)) (sNil))) (sNil))) (sSeq (sRet (eC .non)) (sNil)))
def f_parting : Fn := runFn 4 d_parting
def d_alike : Sm := sSeq (sRet (eP2 pIs (pA (eCall f_parting (esCons (eVar 0) (esCons (eVar 1) (esNil))))) (pA (eC .non)))) (sNil)
def f_alike : Fn := runFn 2 d_alike
def d_told_at : Sm := sSeq (sRet (eIf (eCall f_may_tell (esCons (eVar 0) (esCons (eVar 1) (esCons (eVar 2) (esCons (eTup (esNil)) (esNil)))))) (eCall f_ears (esCons (eVar 0) (esCons (eVar 1) (esCons (eVar 2) (esCons (eTup (esNil)) (esNil)))))) (eC .non))) (sNil)
def f_told_at : Fn := runFn 3 d_told_at
def d_same_lets : Sm := sSeq (sEx (eCall f_look_two (esCons (eVar 0) (esCons (eVar 1) (esNil))))) (sSeq (sFor (iR1 (eCall f_round_of (esCons (eLst (esCons (eVar 0) (esCons (eVar 1) (esNil)))) (esNil)))) (tgN 2) (sSeq (sFor (iR1 (eP1 pLen (pA (eP2 pIdx (pN 0) (pA (eC (.int 1))))))) (tgN 3) (sSeq (sIf (eP2 pNeK (pA (eCall f_told_at (esCons (eVar 0) (esCons (eVar 3) (esCons (eVar 2) (esNil)))))) (pA (eCall f_told_at (esCons (eVar 1) (esCons (eVar 3) (esCons (eVar 2) (esNil))))))) (sSeq (sRet (eTup (esCons (eVar 2) (esCons (eVar 3) (esNil))))) (sNil)) (sNil)) (sNil))) (sNil))) (sSeq (sRet (eC .non)) (sNil)))
def f_same_lets : Fn := runFn 4 d_same_lets
def d_law_other : Sm := sSeq (sIf (eP2 pEq (pA (eCall f_law_draw (esCons (eVar 0) (esCons (eC (.int 4)) (esNil))))) (pA (eC (.int 0)))) (sSeq (sRet (eCall f_law_crowd (esCons (eVar 0) (esCons (eP1 pLen (pA (eP2 pIdx (pN 1) (pA (eC (.int 1)))))) (esCons (eC (.int 2)) (esNil)))))) (sNil)) (sNil)) (sSeq (sOwn 2 (eLC (iP (pA (eP2 pIdx (pN 1) (pA (eC (.int 1)))))) [9] (tgN 9) (eYes) (eP2 pMul (pN 9) (pA (eIf (eP2 pLt (pA (eP1 pLen (pN 9))) (pA (eC (.int 4)))) (eCall f_law_pick (esCons (eVar 0) (esCons (eLst (esCons (eC (.int 1)) (esCons (eC (.int 1)) (esCons (eC (.int 2)) (esNil))))) (esNil)))) (eC (.int 1))))))) (sSeq (sPut (tgN 3) (eCall f_law_draw (esCons (eVar 0) (esCons (eP1 pLen (pN 2)) (esNil))))) (sSeq (sPut (tgN 4) (eCall f_law_draw (esCons (eVar 0) (esCons (eP1 pLen (pA (eP2 pIdx (pN 2) (pN 3)))) (esNil))))) (sSeq (sPut (tgT [6, 7, 8]) (eP2 pIdx (pA (eP2 pIdx (pN 2) (pN 3))) (pN 4))) (sSeq (sPut (tgN 5) (eCall f_law_pick (esCons (eVar 0) (esCons (eLst (esCons (eTup (esCons (eVar 6) (esCons (eVar 7) (esCons (eCall f_law_draw (esCons (eVar 0) (esCons (eC (.int 4)) (esNil)))) (esNil))))) (esCons (eTup (esCons (eVar 6) (esCons (eVar 7) (esCons (eVar 8) (esNil))))) (esCons (eTup (esCons (eP2 pMin2 (pA (eC (.int 9))) (pA (eP2 pAdd (pN 6) (pA (eCall f_law_draw (esCons (eVar 0) (esCons (eC (.int 2)) (esNil)))))))) (esCons (eVar 7) (esCons (eVar 8) (esNil))))) (esNil))))) (esNil))))) (sSeq (sSetI 2 (eVar 3) (eP2 pAdd (pA (eP2 pAdd (pA (eCut (pA (eP2 pIdx (pN 2) (pN 3))) none (some (eVar 4)))) (pA (eTup (esCons (eVar 5) (esNil)))))) (pA (eCut (pA (eP2 pIdx (pN 2) (pN 3))) (some (eP2 pAdd (pN 4) (pA (eC (.int 1))))) none)))) (sSeq (sRet (eTup (esCons (eP2 pAdd (pA (eP2 pIdx (pN 1) (pA (eC (.int 0))))) (pA (eP2 pDiv (pA (eCall f_law_draw (esCons (eVar 0) (esCons (eC (.int 5)) (esNil))))) (pA (eC (.int 4)))))) (esCons (eP1 pTuple (pN 2)) (esCons (eP2 pIdx (pN 1) (pA (eC (.int 2)))) (esNil)))))) (sNil))))))))
def f_law_other : Fn := runFn 10 d_law_other
def d_turned : Sm := sSeq (sEx (eCall f_look_crowd (esCons (eVar 0) (esNil)))) (sSeq (sIf (eOr (eNot (eP1 (pIsi .int) (pN 1))) (eP1 (pIsi .bool) (pN 1))) (sSeq (sRaise .crowd) (sNil)) (sNil)) (sSeq (sPut (tgN 2) (eP1 pTuple (pA (eLC (iP (pA (eP2 pIdx (pN 0) (pA (eC (.int 1)))))) [3] (tgN 3) (eYes) (eP2 pAdd (pA (eCut (pN 3) (some (eP2 pMod (pN 1) (pA (eP1 pLen (pN 3))))) none)) (pA (eCut (pN 3) none (some (eP2 pMod (pN 1) (pA (eP1 pLen (pN 3)))))))))))) (sSeq (sRet (eTup (esCons (eP2 pIdx (pN 0) (pA (eC (.int 0)))) (esCons (eVar 2) (esCons (eP2 pIdx (pN 0) (pA (eC (.int 2)))) (esNil)))))) (sNil))))
def f_turned : Fn := runFn 4 d_turned
def d_mirrored : Sm := sSeq (sEx (eCall f_look_crowd (esCons (eVar 0) (esNil)))) (sSeq (sPut (tgN 1) (eP1 pTuple (pA (eLC (iP (pA (eP2 pIdx (pN 0) (pA (eC (.int 1)))))) [2] (tgN 2) (eYes) (eP1 pTuple (pA (eLC (iP (pN 2)) [3, 4, 5] (tgT [3, 4, 5]) (eYes) (eTup (esCons (eOp1 pNeg (eVar 3)) (esCons (eVar 4) (esCons (eP2 pIdx (pA (eTup (esCons (eC (.int 2)) (esCons (eC (.int 1)) (esCons (eC (.int 0)) (esCons (eC (.int 3)) (esNil))))))) (pN 5)) (esNil)))))))))))) (sSeq (sRet (eTup (esCons (eP2 pIdx (pN 0) (pA (eC (.int 0)))) (esCons (eVar 1) (esCons (eP2 pIdx (pN 0) (pA (eC (.int 2)))) (esNil)))))) (sNil)))
def f_mirrored : Fn := runFn 6 d_mirrored
def d_law_source : Sm := sSeq (sPut (tgT [7, 8]) (eCall f_law_given (esCons (eVar 0) (esCons (eVar 1) (esCons (eVar 2) (esCons (eVar 3) (esCons (eVar 4) (esNil)))))))) (sSeq (sIf (eP2 pNotIn2 (pN 5) (pN 7)) (sSeq (sRet (eC (.str ("none" : Str)))) (sNil)) (sNil)) (sSeq (sIf (eP2 pInX (pN 5) (pN 1)) (sSeq (sRet (eC .non)) (sNil)) (sNil)) (sSeq (sOwn 6 (eLC (iR1 (eP1 pLen (pN 2))) [9] (tgN 9) (eAnd (eP2 pNotInX (pN 9) (pN 8)) (eP2 pEq (pA (eP2 pAdd (pA (eP2 pIdx (pA (eP2 pIdx (pN 2) (pN 9))) (pA (eC (.int 0))))) (pA (eC (.int 1))))) (pA (eP2 pIx2 (pN 7) (pN 5))))) (eP2 pIdx (pN 2) (pN 9)))) (sSeq (sFz 6) (sSeq (sRet (eP1 pMinL (pA (eLC (iP (pN 6)) [10, 9] (tgT [10, 9]) (eP2 pInX (pN 5) (pA (eCall f_law_ears (esCons (eVar 0) (esCons (eVar 9) (esCons (eVar 10) (esCons (eVar 4) (esNil)))))))) (eTup (esCons (eVar 10) (esCons (eVar 9) (esNil)))))))) (sNil))))))
def f_law_source : Fn := runFn 11 d_law_source
def d__wall : Sm := sSeq (sWhile (eC (.bl true)) (sSeq (sNil) (sNil))) (sNil)
def f__wall : Fn := runFn 1 d__wall
def d_law_later : Sm := sSeq (sRet (eAnd (eP2 pIsNot (pN 1) (pA (eC .non))) (eOr (eP2 pIs (pN 0) (pA (eC .non))) (eP2 pGt (pN 0) (pN 1))))) (sNil)
def f_law_later : Fn := runFn 2 d_law_later
def d_law_good_row : Sm := sSeq (sPut (tgN 4) (eCall f_law_row (esCons (eVar 0) (esCons (eVar 1) (esCons (eVar 3) (esCons (eC (.int 12)) (esNil))))))) (sSeq (sPut (tgN 5) (eP2 pIdx (pA (eCall f_law_given (esCons (eVar 1) (esCons (eVar 2) (esCons (eVar 4) (esCons (eVar 3) (esCons (eTup (esNil)) (esNil)))))))) (pA (eC (.int 1))))) (sSeq (sRet (eLC (iR1 (eP1 pLen (pN 4))) [6] (tgN 6) (eP2 pNotInX (pN 6) (pN 5)) (eP2 pIdx (pN 4) (pN 6)))) (sNil)))
def f_law_good_row : Fn := runFn 7 d_law_good_row
def d_law_met_late : Sm := sSeq (sPut (tgN 5) (eCall f_law_draw (esCons (eVar 0) (esCons (eC (.int 30)) (esNil))))) (sSeq (sPut (tgN 6) (eTup (esCons (eC (.int 1)) (esCons (eTup (esCons (eTup (esCons (eTup (esCons (eC (.int 0)) (esCons (eC (.int 0)) (esCons (eC (.int 0)) (esNil))))) (esCons (eTup (esCons (eC (.int 5)) (esCons (eC (.int 5)) (esCons (eC (.int 0)) (esNil))))) (esNil)))) (esCons (eTup (esCons (eTup (esCons (eC (.int 9)) (esCons (eC (.int 9)) (esCons (eC (.int 0)) (esNil))))) (esCons (eTup (esCons (eC (.int 1)) (esCons (eC (.int 0)) (esCons (eC (.int 2)) (esNil))))) (esNil)))) (esNil)))) (esCons (eTup (esNil)) (esNil)))))) (sSeq (sPut (tgN 7) (eLst (esCons (eVar 3) (esCons (eP2 pAdd (pA (eP2 pAdd (pA (eP2 pAdd (pN 3) (pN 5))) (pA (eP2 pMod (pA (eP2 pAdd (pN 3) (pN 5))) (pA (eC (.int 2))))))) (pA (eC (.int 1)))) (esNil))))) (sSeq (sIf (eOr (eP2 pNeK (pA (eCallG f_earliest [] [0, 1, 2, 3] (esCons (eVar 6) (esCons (eTup (esCons (eC (.int 0)) (esNil))) (esNil))) (esCons (eVar 3) (esCons (eTup (esCons (eTup (esCons (eC (.int 1)) (esCons (eP2 pAdd (pN 3) (pN 5)) (esCons (eC (.int 1)) (esNil))))) (esNil))) (esNil))))) (pN 7)) (eP2 pNeK (pA (eCall f_ever (esCons (eVar 6) (esCons (eTup (esCons (eC (.int 0)) (esNil))) (esNil))))) (pA (eTup (esCons (eC (.int 0)) (esNil)))))) (sSeq (sRet (eC (.bl false))) (sNil)) (sNil)) (sSeq (sRet (eP2 pEq (pA (eCallG f_earliest [] [0, 1, 2, 3] (esCons (eVar 1) (esCons (eVar 2) (esNil))) (esCons (eVar 3) (esCons (eTup (esNil)) (esNil))))) (pN 4))) (sNil)))))
def f_law_met_late : Fn := runFn 8 d_law_met_late
end Pg

set_option maxRecDepth 100000
set_option maxHeartbeats 1000000
namespace M01
open PySem Hw Pg
/-! ### plain runs -/
theorem trunc_same {n : Nat} {v : PV} {S : Sto} (h : S.length = n) : truncR n (.ok v S) = .ok v S := by
  have e : S.take n = S := by rw [← h]; exact List.take_length
  simp only [truncR, e]; split <;> rfl
theorem run_rt {n : Nat} {d : Sm} {args : List PV} {S S' : Sto} {v : PV} (h : d (args.map .v ++ List.replicate (n - args.length) .un) S = .rt v S') (hl : S'.length = S.length) : runFn n d args S = .ok v S' := by
  unfold runFn; rw [h]; exact trunc_same hl
theorem run_nx {n : Nat} {d : Sm} {args : List PV} {S S' : Sto} {e : En} (h : d (args.map .v ++ List.replicate (n - args.length) .un) S = .nx e S') (hl : S'.length = S.length) : runFn n d args S = .ok .non S' := by
  unfold runFn; rw [h]; exact trunc_same hl
theorem lc_pure {α : Type} {g : Tgt} {c e : Ex} {env0 : En} {S : Sto} (enc : α → PV) (p : α → Bool) (f : α → PV) : ∀ (l : List α), (∀ a ∈ l, ∃ env1, g (enc a) env0 = some env1 ∧ c env1 S = .ok (.bl (p a)) S ∧ (p a = true → e env1 S = .ok (f a) S)) →
    lcLoop g c e env0 (l.map enc) S = .ok ((l.filter p).map f) S
  | [], _ => rfl
  | a :: l, h => by
    obtain ⟨env1, h1, h2, h3⟩ := h a (by simp)
    have ih := lc_pure enc p f l fun b hb => h b (by simp [hb])
    rw [List.map_cons, lcLoop, h1]
    simp only [h2, R.bind]
    cases hp : p a with
    | true => simp only [h3 hp, R.bind, ih, List.filter_cons, hp, if_true, List.map_cons]
    | false => simp [ih, hp]
theorem elc {α : Type} {it : Itx} {vs : List Nat} {g : Tgt} {c e : Ex} {env env0 : En} {S : Sto} (l : List α) (enc : α → PV) (p : α → Bool) (f : α → PV) (hi : it env S = .ok (l.map enc) S) (hw : wipeE vs env = some env0) (hl : l.length ≤ 1000000)
    (h : ∀ a ∈ l, ∃ env1, g (enc a) env0 = some env1 ∧ c env1 S = .ok (.bl (p a)) S ∧ (p a = true → e env1 S = .ok (f a) S)) : eLC it vs g c e env S = .ok (.lst ((l.filter p).map f)) S := by
  unfold eLC
  rw [hi]
  simp only [R.bind, hw]
  rw [if_pos (by simpa using hl), lc_pure enc p f l h]
  rfl
theorem elc1 {α : Type} {it : Itx} {vs : List Nat} {g : Tgt} {e : Ex} {env env0 : En} {S : Sto} (l : List α) (enc : α → PV) (f : α → PV) (hi : it env S = .ok (l.map enc) S) (hw : wipeE vs env = some env0) (hl : l.length ≤ 1000000)
    (h : ∀ a ∈ l, ∃ env1, g (enc a) env0 = some env1 ∧ e env1 S = .ok (f a) S) : eLC it vs g eYes e env S = .ok (.lst (l.map f)) S := by
  rw [elc l enc (fun _ => true) f hi hw hl fun a ha => by
    obtain ⟨e1, h1, h2⟩ := h a ha
    exact ⟨e1, h1, rfl, fun _ => h2⟩]
  rw [List.filter_eq_self.mpr fun _ _ => rfl]
theorem bls_map {α : Type} (q : α → Bool) : ∀ l : List α, blsOf (l.map fun a => PV.bl (q a)) = some (l.map q)
  | [] => rfl
  | a :: l => by simp [blsOf, bls_map q l]
theorem all_lc {α : Type} {it : Itx} {vs : List Nat} {g : Tgt} {e : Ex} {env env0 : En} {S : Sto} (l : List α) (enc : α → PV) (q : α → Bool) (hi : it env S = .ok (l.map enc) S) (hw : wipeE vs env = some env0) (hl : l.length ≤ 1000000)
    (h : ∀ a ∈ l, ∃ env1, g (enc a) env0 = some env1 ∧ e env1 S = .ok (.bl (q a)) S) : eP1 pAll (pA (eLC it vs g eYes e)) env S = .ok (.bl (l.all q)) S := by
  simp [eP1, pA, elc1 l enc (fun a => .bl (q a)) hi hw hl h, R.bind, plOf, res, pAll, bls_map, R.opt, List.all_map, Function.comp_def]
theorem any_lc {α : Type} {it : Itx} {vs : List Nat} {g : Tgt} {e : Ex} {env env0 : En} {S : Sto} (l : List α) (enc : α → PV) (q : α → Bool) (hi : it env S = .ok (l.map enc) S) (hw : wipeE vs env = some env0) (hl : l.length ≤ 1000000)
    (h : ∀ a ∈ l, ∃ env1, g (enc a) env0 = some env1 ∧ e env1 S = .ok (.bl (q a)) S) : eP1 pAny (pA (eLC it vs g eYes e)) env S = .ok (.bl (l.any q)) S := by
  simp [eP1, pA, elc1 l enc (fun a => .bl (q a)) hi hw hl h, R.bind, plOf, res, pAny, bls_map, R.opt, List.any_map, Function.comp_def]
theorem for_inv {α : Type} {g : Tgt} {body : Sm} (enc : α → PV) (I : En → Sto → Prop) : ∀ (l : List α), (∀ a ∈ l, ∀ env S, I env S → ∃ env1, g (enc a) env = some env1 ∧ ∃ env2 S2, body env1 S = .nx env2 S2 ∧ I env2 S2) → ∀ env S, I env S →
    ∃ env' S', forLoop g body (l.map enc) env S = .nx env' S' ∧ I env' S'
  | [], _, env, S, h => ⟨env, S, rfl, h⟩
  | a :: l, hs, env, S, h => by
    obtain ⟨e1, h1, e2, S2, h2, h3⟩ := hs a (by simp) env S h
    obtain ⟨e3, S3, h4, h5⟩ := for_inv enc I l (fun b hb => hs b (by simp [hb])) e2 S2 h3
    refine ⟨e3, S3, ?_, h5⟩
    rw [List.map_cons, forLoop, h1]
    simp only [h2, h4]
/-! ### steps -/
section
variable {c e : Ex} {a b r : Sm} {g : Tgt} {env env' : En} {S S' : Sto} {v : PV} {it : Itx} {xs : List PV}
theorem step_ifF (h : c env S = .ok (.bl false) S') : sSeq (sIf c a sNil) r env S = r env S' := by simp [sSeq, sIf, h, sNil]
theorem step_ifT (h : c env S = .ok (.bl true) S') (h2 : a env S' = .rt v S) : sSeq (sIf c a b) r env S = .rt v S := by simp [sSeq, sIf, h, h2]
theorem step_ret (h : e env S = .ok v S') : sSeq (sRet e) r env S = .rt v S' := by simp [sSeq, sRet, h]
theorem step_put (h : e env S = .ok v S') (hg : g v env = some env') : sSeq (sPut g e) r env S = r env' S' := by simp [sSeq, sPut, h, hg]
theorem step_ex (h : e env S = .ok v S') : sSeq (sEx e) r env S = r env S' := by simp [sSeq, sEx, h]
theorem or_F {a b : Ex} (h : a env S = .ok (.bl false) S') : eOr a b env S = b env S' := by simp [eOr, h, R.bind]
theorem or_T {a b : Ex} (h : a env S = .ok (.bl true) S') : eOr a b env S = .ok (.bl true) S' := by simp [eOr, h, R.bind]
theorem and_T {a b : Ex} (h : a env S = .ok (.bl true) S') : eAnd a b env S = b env S' := by simp [eAnd, h, R.bind]
theorem and_F {a b : Ex} (h : a env S = .ok (.bl false) S') : eAnd a b env S = .ok (.bl false) S' := by simp [eAnd, h, R.bind]
theorem not_ok {a : Ex} {b : Bool} (h : a env S = .ok (.bl b) S') : eNot a env S = .ok (.bl (!b)) S' := by simp [eNot, h, R.bind]
theorem orF {a b : Ex} {q : R PV} (h : a env S = .ok (.bl false) S) (h2 : b env S = q) : eOr a b env S = q := (or_F h).trans h2
theorem andT {a b : Ex} {q : R PV} (h : a env S = .ok (.bl true) S) (h2 : b env S = q) : eAnd a b env S = q := (and_T h).trans h2
theorem notT {a : Ex} (h : a env S = .ok (.bl true) S) : eNot a env S = .ok (.bl false) S := not_ok h
theorem notF {a : Ex} (h : a env S = .ok (.bl false) S) : eNot a env S = .ok (.bl true) S := not_ok h
theorem step_for (h : it env S = .ok xs S) (h2 : forLoop g a xs env S = .nx env' S') : sSeq (sFor it g a) r env S = r env' S' := by simp [sSeq, sFor, h, h2]
theorem step_forR {w : PV} (h : it env S = .ok xs S) (h2 : forLoop g a xs env S = .rt w S') : sSeq (sFor it g a) r env S = .rt w S' := by simp [sSeq, sFor, h, h2]
theorem ifF {q : RS} (h : c env S = .ok (.bl false) S) (h2 : r env S = q) : sSeq (sIf c a sNil) r env S = q := (step_ifF h).trans h2
theorem putS {q : RS} (h : e env S = .ok v S) (hg : g v env = some env') (h2 : r env' S = q) : sSeq (sPut g e) r env S = q := (step_put h hg).trans h2
theorem exS {q : RS} (h : e env S = .ok v S) (h2 : r env S = q) : sSeq (sEx e) r env S = q := (step_ex h).trans h2
theorem forS {q : RS} (h : it env S = .ok xs S) (h1 : forLoop g a xs env S = .nx env' S) (h2 : r env' S = q) : sSeq (sFor it g a) r env S = q := (step_for h h1).trans h2
theorem ifE {r : Sm} {k : Bool} (h : c env S = .ok (.bl k) S) : sSeq (sIf c a sNil) r env S = if k then sSeq a r env S else r env S := by
  cases k
  · exact step_ifF h
  · simp [sSeq, sIf, h]
theorem seqRt {w : PV} {a r : Sm} (h : a env S = .rt w S') : sSeq a r env S = .rt w S' := by simp [sSeq, h]
theorem parS {q : RS} {is : List Nat} {ds : Exs} {us : List PV} (h : ds env S = .ok us S) (hg : tgs is us env = some env') (h2 : r env' S = q) : sSeq (sPar is ds) r env S = q := by simp [sSeq, sPar, h, hg, h2]
theorem callS {q : R PV} {f : Fn} {ds : Exs} {us : List PV} (h : ds env S = .ok us S) (h2 : f us S = q) : eCall f ds env S = q := by simp [eCall, h, R.bind, h2]
theorem aC {ds : Exs} {us : List PV} (h : e env S = .ok v S) (h2 : ds env S = .ok us S) : esCons e ds env S = .ok (v :: us) S := by simp [esCons, h, h2, R.bind]
theorem aN : esNil env S = .ok [] S := rfl
theorem retS (h : e env S = .ok v S) : sSeq (sRet e) r env S = .rt v S := step_ret h
end
/-! ### places, purely -/
def PlE (p : Plx) (env : En) (S : Sto) (x : PV) : Prop := ∃ pl, p env S = .ok pl S ∧ res pl env S = some x
section
variable {env : En} {S : Sto} {x u v z : PV} {a b : Plx} {f : PV → PV → Option PV} {f1 : PV → Option PV} {d : Ex} {i : Nat}
theorem pA_ok (h : d env S = .ok x S) (hp : plOf x = .val x := by rfl) : PlE (pA d) env S x := ⟨.val x, by simp [pA, h, R.bind, hp], rfl⟩
theorem pN_ok (h : env[i]? = some (.v x) := by rfl) (hp : plOf x = .val x := by rfl) : PlE (pN i) env S x := ⟨.val x, by simp [pN, h, hp], rfl⟩
theorem pO_ok (h : env[i]? = some (.own x) := by rfl) : PlE (pN i) env S x := ⟨.slot i, by simp [pN, h], by simp [res, h]⟩
theorem pC_ok {n : Nat} (h : env[i]? = some (.v (.ptr n))) (hs : S[n]? = some x) : PlE (pN i) env S x := ⟨.cell n, by simp [pN, h, plOf], hs⟩
theorem p1_ok (ha : PlE a env S u) (h : f1 u = some z) : eP1 f1 a env S = .ok z S := by
  obtain ⟨p, h1, h2⟩ := ha
  simp [eP1, h1, R.bind, h2, h, R.opt]
theorem p2_ok (ha : PlE a env S u) (hb : PlE b env S v) (h : f u v = some z) : eP2 f a b env S = .ok z S := by
  obtain ⟨p, h1, h2⟩ := ha
  obtain ⟨q, h3, h4⟩ := hb
  simp [eP2, h1, h3, R.bind, h2, h4, h, R.opt]
theorem eC_ok : eC x env S = .ok x S := rfl
theorem eV_ok (h : env[i]? = some (.v x) := by rfl) : eVar i env S = .ok x S := by simp [eVar, h]
theorem pC_c : (hp : plOf x = .val x) → PlE (pA (eC x)) env S x := fun hp => pA_ok rfl hp
end
/-! ### indexes -/
theorem ixN_in {n : Nat} {i : Int} (h0 : 0 ≤ i) (h1 : i < n) : L2.ixN n i = some i.toNat := by
  unfold L2.ixN; rw [if_pos h0, if_pos h1]
theorem atI_map {α : Type} [Inhabited α] (l : List α) (enc : α → PV) {i : Int} (h0 : 0 ≤ i) (h1 : i < l.length) : L2.atI (l.map enc) i = some (enc l[i.toNat]!) := by
  unfold L2.atI
  rw [ixN_in h0 (by simpa using h1)]
  have : i.toNat < l.length := by omega
  simp [this]
theorem idx_t {α : Type} [Inhabited α] (l : List α) (enc : α → PV) {i : Int} (h0 : 0 ≤ i) (h1 : i < l.length) : pIdx (.tup (l.map enc)) (.int i) = some (enc l[i.toNat]!) := atI_map l enc h0 h1
theorem idx_l {α : Type} [Inhabited α] (l : List α) (enc : α → PV) {i : Int} (h0 : 0 ≤ i) (h1 : i < l.length) : pIdx (.lst (l.map enc)) (.int i) = some (enc l[i.toNat]!) := atI_map l enc h0 h1
/-! ### crowds -/
abbrev St3 := Int × Int × Int
def eS (s : St3) : PV := .tup [.int s.1, .int s.2.1, .int s.2.2]
def eRow (r : List St3) : PV := .tup (r.map eS)
def eCr (reach : Int) (rows : List (List St3)) (bar : List Int) : PV := .tup [.int reach, .tup (rows.map eRow), .tup (bar.map .int)]
def eLate (l : List St3) : PV := .tup (l.map eS)
structure Good (reach : Int) (rows : List (List St3)) (bar : List Int) : Prop where
  r0 : 0 ≤ reach
  r1 : reach ≤ 18
  n0 : 2 ≤ rows.length
  n1 : rows.length ≤ 8
  l0 : ∀ r ∈ rows, 1 ≤ r.length
  l1 : ∀ r ∈ rows, r.length ≤ 6
  st : ∀ r ∈ rows, ∀ s ∈ r, -9 ≤ s.1 ∧ s.1 ≤ 9 ∧ -9 ≤ s.2.1 ∧ s.2.1 ≤ 9 ∧ 0 ≤ s.2.2 ∧ s.2.2 ≤ 3
  b0 : ∀ b ∈ bar, 0 ≤ b ∧ b < rows.length
  b1 : bar.Pairwise (· < ·)
  b2 : bar.length ≤ 1000
structure GoodL (n : Nat) (late : List St3) : Prop where
  l : late.length ≤ 4
  w : ∀ t ∈ late, 0 ≤ t.1 ∧ t.1 < n ∧ 0 ≤ t.2.1 ∧ t.2.1 ≤ 1000000000000 ∧ 1 ≤ t.2.2 ∧ t.2.2 ≤ 6
  p : late.Pairwise (·.1 < ·.1)
theorem ev_is_whole (S : Sto) (a lo hi : Int) : f_is_whole [.int a, .int lo, .int hi] S = .ok (.bl (decide (lo ≤ a) && decide (a ≤ hi))) S := by
  refine run_rt ?_ rfl
  by_cases h1 : lo ≤ a <;> simp [d_is_whole, sSeq, sRet, eAnd, eNot, eP1, pN, plOf, res, pIsi, pIsI, R.bind, R.opt, eChain, eVar, pLe, h1]
theorem ev_look_beat (S : Sto) (a : Int) (h : 0 ≤ a ∧ a ≤ 1000000000000) : f_look_beat [.int a] S = .ok .non S := by
  refine run_nx (e := [.v (.int a)]) ?_ rfl
  simp [d_look_beat, sSeq, sIf, eNot, eCall, esCons, esNil, eVar, eC, ev_is_whole, R.bind, sNil, h.1, h.2]
theorem ev_is_stand (S : Sto) (s : St3) (h : -9 ≤ s.1 ∧ s.1 ≤ 9 ∧ -9 ≤ s.2.1 ∧ s.2.1 ≤ 9 ∧ 0 ≤ s.2.2 ∧ s.2.2 ≤ 3) : f_is_stand [eS s] S = .ok (.bl true) S := by
  refine run_rt ?_ rfl
  obtain ⟨x, y, w⟩ := s
  simp only at h
  have key : eP1 pAll (pA (eLC (iP (pA (eCut (pN 0) none (some (eC (.int 2)))))) [1] (tgN 1) (eYes) (eCall f_is_whole (esCons (eVar 1) (esCons (eOp1 pNeg (eC (.int 9))) (esCons (eC (.int 9)) (esNil))))))) [.v (eS (x, y, w)), .un] S = .ok (.bl ([x, y].all fun a => decide (-9 ≤ a) && decide (a ≤ 9))) S := by
    refine all_lc (env0 := [.v (eS (x, y, w)), .un]) [x, y] .int _ ?_ rfl (by simp) fun a _ => ⟨[.v (eS (x, y, w)), .v (.int a)], rfl, ?_⟩
    · simp [iP, pA, eCut, pN, plOf, eS, res, eOpt, eC, R.bind, R.opt, pCut, cutP, HT.sIx, itemsOf]
    · simp [eCall, esCons, esNil, eVar, eC, eOp1, pNeg, R.bind, R.opt, ev_is_whole]
  refine (step_ifF ?_).trans ((step_ret key).trans ?_)
  · simp [eOr, eNot, eS, eP1, eP2, pN, pA, plOf, res, pIsi, pIsI, pLen, pNeK, pNe, PV.sh, PV.eq, pIdx, L2.atI, L2.ixN, eCall, esCons, esNil, eC, ev_is_whole, R.bind, R.opt, h]
  · simp [h]
end M01

set_option maxRecDepth 100000
set_option maxHeartbeats 1000000
namespace M01
open PySem Hw Pg
theorem ev_is_folk (S : Sto) (bar : List Int) (n : Int) (hl : bar.length ≤ 1000) (h0 : ∀ b ∈ bar, 0 ≤ b ∧ b < n) (hp : bar.Pairwise (· < ·)) : f_is_folk [.tup (bar.map .int), .int n] S = .ok (.bl true) S := by
  refine run_rt ?_ rfl
  have k1 : eP1 pAll (pA (eLC (iP (pN 0)) [3] (tgN 3) (eYes) (eCall f_is_whole (esCons (eVar 3) (esCons (eC (.int 0)) (esCons (eP2 pSub (pN 1) (pA (eC (.int 1)))) (esNil))))))) [.v (.tup (bar.map .int)), .v (.int n), .un, .un] S = .ok (.bl (bar.all fun a => decide (0 ≤ a) && decide (a ≤ n - 1))) S := by
    refine all_lc (env0 := [.v (.tup (bar.map .int)), .v (.int n), .un, .un]) bar .int _ ?_ rfl (by omega) fun a _ => ⟨[.v (.tup (bar.map .int)), .v (.int n), .un, .v (.int a)], rfl, ?_⟩
    · simp [iP, pN, plOf, R.bind, R.opt, itemsOf]
    · simp [eCall, esCons, esNil, eVar, eC, eP2, pN, pA, plOf, res, pSub, R.bind, R.opt, ev_is_whole]
  have k2 : eP1 pAll (pA (eLC (iR1 (eP2 pSub (pA (eP1 pLen (pN 0))) (pA (eC (.int 1))))) [2] (tgN 2) (eYes) (eP2 pLt (pA (eP2 pIdx (pN 0) (pN 2))) (pA (eP2 pIdx (pN 0) (pA (eP2 pAdd (pN 2) (pA (eC (.int 1)))))))))) [.v (.tup (bar.map .int)), .v (.int n), .un, .un] S
      = .ok (.bl ((List.range (bar.length - 1)).all fun k => decide (bar[k]! < bar[k + 1]!))) S := by
    refine all_lc (env0 := [.v (.tup (bar.map .int)), .v (.int n), .un, .un]) (List.range (bar.length - 1)) (fun (k : Nat) => .int (0 + (k : Int))) _ ?_ rfl (by simp; omega) fun k hk => ⟨[.v (.tup (bar.map .int)), .v (.int n), .v (.int (0 + (k : Int))), .un], rfl, ?_⟩
    · have ok : okN ((bar.length : Int) - 1) = true := by
        unfold okN
        rw [Bool.and_eq_true]
        exact ⟨decide_eq_true (by omega), decide_eq_true (by omega)⟩
      simp [iR1, eP2, eP1, pN, pA, plOf, res, pLen, eC, pSub, R.bind, R.opt, rangeL, ok]
    · have hk : k < bar.length - 1 := List.mem_range.mp hk
      have i1 := idx_t bar .int (i := (0 + (k : Int))) (by omega) (by omega)
      have i2 := idx_t bar .int (i := (0 + (k : Int)) + 1) (by omega) (by omega)
      simp [eP2, pN, pA, plOf, res, eC, pAdd, pLt, R.bind, R.opt, i1, i2] at i1 i2 ⊢
      simp [i1, i2, pLt, R.opt, R.bind]
  have a1 : (bar.all fun a => decide (0 ≤ a) && decide (a ≤ n - 1)) = true := List.all_eq_true.mpr fun b hb => by
    obtain ⟨x, y⟩ := h0 b hb
    simp; omega
  have a2 : ((List.range (bar.length - 1)).all fun k => decide (bar[k]! < bar[k + 1]!)) = true := List.all_eq_true.mpr fun k hk => by
    have hk : k < bar.length - 1 := List.mem_range.mp hk
    have := List.pairwise_iff_getElem.mp hp k (k + 1) (by omega) (by omega) (by omega)
    rw [getElem!_pos bar k (by omega), getElem!_pos bar (k + 1) (by omega)]
    exact decide_eq_true this
  rw [a1] at k1
  rw [a2] at k2
  refine (step_ifF (orF (notT ?_) (notT k1))).trans (step_ret k2)
  simp [eP1, pN, plOf, res, pIsi, pIsI, R.bind, R.opt]
theorem ev_is_crowd (S : Sto) {reach : Int} {rows : List (List St3)} {bar : List Int} (h : Good reach rows bar) : f_is_crowd [eCr reach rows bar] S = .ok (.bl true) S := by
  refine run_rt ?_ rfl
  have kr : ∀ (r : List St3), r ∈ rows → ∀ (env : En), env.length = 6 → env[1]? = some (.v (eRow r)) → (∃ x, env[5]? = some (.v x)) ∨ env[5]? = some .un → eP1 pAll (pA (eLC (iP (pN 1)) [5] (tgN 5) (eYes) (eCall f_is_stand (esCons (eVar 5) (esNil))))) env S = .ok (.bl true) S := fun r hr env hl h1 h5 => by
    have hw : wipeE [5] env = some (env.set 5 .un) := by
      unfold wipeE
      rcases h5 with ⟨x, h5⟩ | h5 <;> simp [h5, wipeE]
    rw [all_lc (env0 := env.set 5 .un) r eS (fun _ => true) ?_ hw ?_ ?_]
    · simp
    · simp [iP, pN, plOf, R.bind, R.opt, itemsOf, h1, eRow]
    · have := h.l1 r hr; omega
    · intro s hs
      refine ⟨(env.set 5 .un).set 5 (.v (eS s)), ?_, ?_⟩
      · simp [tgN, setV, hl]
      · simp [eCall, esCons, esNil, eVar, hl, R.bind, ev_is_stand S s (h.st r hr s hs)]
  obtain ⟨e', S', h1, h2⟩ := for_inv (g := tgN 1) (body := (sSeq (sIf (eOr (eNot (eP1 (pIsi .tuple) (pN 1))) (eOr (eNot (eChain pLe pLe (eC (.int 1)) (eP1 pLen (pN 1)) (eC (.int 6)))) (eNot (eP1 pAll (pA (eLC (iP (pN 1)) [5] (tgN 5) (eYes) (eCall f_is_stand (esCons (eVar 5) (esNil))))))))) (sSeq (sRet (eC (.bl false))) (sNil)) (sNil)) (sNil))) eRow
    (fun env S' => S' = S ∧ ∃ x, env = [.v (eCr reach rows bar), x, .v (.int reach), .v (.tup (rows.map eRow)), .v (.tup (bar.map .int)), .un] ∧ ∀ y, x ≠ .lk y) rows (fun r hr env S' hI => by
      obtain ⟨rfl, x, rfl, hx⟩ := hI
      refine ⟨[.v (eCr reach rows bar), .v (eRow r), .v (.int reach), .v (.tup (rows.map eRow)), .v (.tup (bar.map .int)), .un], ?_, _, S', ?_, rfl, .v (eRow r), rfl, fun y => by simp⟩
      · cases x <;> simp [tgN, setV] at hx ⊢
      · have k := kr r hr [.v (eCr reach rows bar), .v (eRow r), .v (.int reach), .v (.tup (rows.map eRow)), .v (.tup (bar.map .int)), .un] rfl rfl (.inr rfl)
        have l0 : (1 : Int) ≤ r.length := by have := h.l0 r hr; omega
        have l1 : (r.length : Int) ≤ 6 := by have := h.l1 r hr; omega
        refine (step_ifF (orF (notT ?_) (orF (notT ?_) (notT k)))).trans rfl
        · simp [eP1, pN, plOf, res, pIsi, pIsI, R.bind, R.opt, eRow]
        · simp [eP1, pN, plOf, res, R.bind, R.opt, eRow, eChain, eC, pLen, pLe, l0, l1]) [.v (eCr reach rows bar), .un, .v (.int reach), .v (.tup (rows.map eRow)), .v (.tup (bar.map .int)), .un] S ⟨rfl, .un, rfl, fun _ => by simp⟩
  obtain ⟨rfl, x, rfl, hx⟩ := h2
  have n0 : (2 : Int) ≤ rows.length := by have := h.n0; omega
  have n1 : (rows.length : Int) ≤ 8 := by have := h.n1; omega
  refine ifF ?_ (putS (env' := [.v (eCr reach rows bar), .un, .v (.int reach), .v (.tup (rows.map eRow)), .v (.tup (bar.map .int)), .un]) rfl rfl (ifF ?_ (forS rfl h1 (retS ?_))))
  · simp [eOr, eNot, eCr, eP1, eP2, pN, pA, plOf, res, pIsi, pIsI, pLen, pNeK, pNe, pMul, cmulB, PV.sh, PV.eq, pIdx, L2.atI, L2.ixN, eCall, esCons, esNil, eC, ev_is_whole, R.bind, R.opt, h.r0, h.r1]
  · simp [eOr, eNot, eP1, pN, plOf, res, pIsi, pIsI, pLen, eChain, pLe, eC, R.bind, R.opt, n0, n1]
  · simp [eCall, esCons, esNil, eVar, eP1, pN, plOf, res, pLen, R.bind, R.opt, ev_is_folk S' bar rows.length h.b2 h.b0 h.b1]
theorem ev_look_crowd (S : Sto) {reach : Int} {rows : List (List St3)} {bar : List Int} (h : Good reach rows bar) : f_look_crowd [eCr reach rows bar] S = .ok .non S := by
  refine run_nx (e := [.v (eCr reach rows bar)]) (ifF ?_ rfl) rfl
  simp [eNot, eCall, esCons, esNil, eVar, R.bind, ev_is_crowd S h]
theorem ev_look_one (S : Sto) {reach : Int} {rows : List (List St3)} {bar : List Int} {one : Int} (h0 : 0 ≤ one) (h1 : one < rows.length) : f_look_one [eCr reach rows bar, .int one] S = .ok .non S := by
  refine run_nx (e := [.v (eCr reach rows bar), .v (.int one)]) (ifF ?_ rfl) rfl
  have : one ≤ (rows.length : Int) - 1 := by omega
  simp [eNot, eCall, esCons, esNil, eVar, eC, eP2, eP1, pN, pA, plOf, res, eCr, pIdx, L2.atI, L2.ixN, pLen, pSub, R.bind, R.opt, ev_is_whole, h0, this]
theorem ev_is_late (S : Sto) {reach : Int} {rows : List (List St3)} {bar : List Int} (t : St3) (h : 0 ≤ t.1 ∧ t.1 < rows.length ∧ 0 ≤ t.2.1 ∧ t.2.1 ≤ 1000000000000 ∧ 1 ≤ t.2.2 ∧ t.2.2 ≤ 6) : f_is_late [eCr reach rows bar, eS t] S = .ok (.bl true) S := by
  refine run_rt (ifF ?_ (retS ?_)) rfl
  · have : t.1 ≤ (rows.length : Int) - 1 := by omega
    simp [eOr, eNot, eS, eCall, esCons, esNil, eVar, eC, eP2, eP1, pN, pA, plOf, res, eCr, pIdx, L2.atI, L2.ixN, pLen, pSub, pIsi, pIsI, pNeK, pNe, PV.sh, PV.eq, R.bind, R.opt, ev_is_whole, h, this]
  · simp [eAnd, eS, eCall, esCons, esNil, eVar, eC, eP2, eP1, pN, pA, plOf, res, pIdx, L2.atI, L2.ixN, R.bind, R.opt, ev_is_whole, h]
end M01

set_option maxRecDepth 100000
set_option maxHeartbeats 1000000
namespace M01
open PySem Hw Pg
theorem for_find {α : Type} {g : Tgt} {body : Sm} {S : Sto} (enc : α → PV) (p : α → Bool) (out : α → PV) (I : En → Prop) : ∀ (l : List α), (∀ a ∈ l, ∀ env, I env → ∃ env1, g (enc a) env = some env1 ∧ if p a = true then body env1 S = .rt (out a) S else ∃ env2, body env1 S = .nx env2 S ∧ I env2) → ∀ env, I env →
    (match l.find? p with
      | some a => forLoop g body (l.map enc) env S = .rt (out a) S
      | none => ∃ env', forLoop g body (l.map enc) env S = .nx env' S ∧ I env')
  | [], _, env, h => ⟨env, rfl, h⟩
  | a :: l, hs, env, h => by
    obtain ⟨e1, h1, h2⟩ := hs a (by simp) env h
    rw [List.find?_cons]
    cases hp : p a with
    | true =>
      rw [if_pos hp] at h2
      simp only [List.map_cons, forLoop, h1, h2]
    | false =>
      rw [if_neg (by simp [hp])] at h2
      obtain ⟨e2, h2, h3⟩ := h2
      have ih := for_find enc p out I l (fun b hb => hs b (by simp [hb])) e2 h3
      simp only [List.map_cons, forLoop, h1, h2]
      exact ih
def nlk (x : SV) : Prop := ∀ y, x ≠ .lk y
theorem nlk_un : nlk .un := fun _ => by simp
theorem nlk_v (x : PV) : nlk (.v x) := fun _ => by simp
theorem ev_look_lates (S : Sto) {reach : Int} {rows : List (List St3)} {bar : List Int} {late : List St3} (h : GoodL rows.length late) : f_look_lates [eCr reach rows bar, eLate late] S = .ok .non S := by
  have hl := h.l
  have k1 : eP1 pAll (pA (eLC (iP (pN 1)) [3] (tgN 3) (eYes) (eCall f_is_late (esCons (eVar 0) (esCons (eVar 3) (esNil)))))) [.v (eCr reach rows bar), .v (eLate late), .un, .un, .un] S = .ok (.bl (late.all fun _ => true)) S := by
    refine all_lc (env0 := [.v (eCr reach rows bar), .v (eLate late), .un, .un, .un]) late eS _ ?_ rfl (by omega) fun t ht => ⟨[.v (eCr reach rows bar), .v (eLate late), .un, .v (eS t), .un], rfl, ?_⟩
    · simp [iP, pN, plOf, R.bind, R.opt, itemsOf, eLate]
    · simp [eCall, esCons, esNil, eVar, R.bind, ev_is_late S t (h.w t ht)]
  have k2 : eP1 pAny (pA (eLC (iR1 (eP2 pSub (pA (eP1 pLen (pN 1))) (pA (eC (.int 1))))) [4] (tgN 4) (eYes) (eP2 pGe (pA (eP2 pIdx (pA (eP2 pIdx (pN 1) (pN 4))) (pA (eC (.int 0))))) (pA (eP2 pIdx (pA (eP2 pIdx (pN 1) (pA (eP2 pAdd (pN 4) (pA (eC (.int 1))))))) (pA (eC (.int 0)))))))) [.v (eCr reach rows bar), .v (eLate late), .v (.bl true), .un, .un] S
      = .ok (.bl ((List.range (late.length - 1)).any fun k => decide (late[k + 1]!.1 ≤ late[k]!.1))) S := by
    refine any_lc (env0 := [.v (eCr reach rows bar), .v (eLate late), .v (.bl true), .un, .un]) (List.range (late.length - 1)) (fun (k : Nat) => .int (0 + (k : Int))) _ ?_ rfl (by simp; omega) fun k hk => ⟨[.v (eCr reach rows bar), .v (eLate late), .v (.bl true), .un, .v (.int (0 + (k : Int)))], rfl, ?_⟩
    · have ok : okN ((late.length : Int) - 1) = true := by
        unfold okN
        rw [Bool.and_eq_true]
        exact ⟨decide_eq_true (by omega), decide_eq_true (by omega)⟩
      simp [iR1, eP2, eP1, pN, pA, plOf, res, pLen, eC, pSub, R.bind, R.opt, rangeL, ok, eLate]
    · have hk : k < late.length - 1 := List.mem_range.mp hk
      have i1 := idx_t late eS (i := (0 + (k : Int))) (by omega) (by omega)
      have i2 := idx_t late eS (i := (0 + (k : Int)) + 1) (by omega) (by omega)
      have e0 : (0 + (k : Int)).toNat = k := by omega
      have e1 : (0 + (k : Int) + 1).toNat = k + 1 := by omega
      rw [e0] at i1
      rw [e1] at i2
      refine p2_ok (pA_ok (p2_ok (pA_ok (p2_ok pN_ok pN_ok i1)) (pA_ok eC_ok) rfl)) (pA_ok (p2_ok (pA_ok (p2_ok pN_ok (pA_ok (p2_ok pN_ok (pA_ok eC_ok) rfl)) i2)) (pA_ok eC_ok) rfl)) ?_
      rfl
  have a2 : ((List.range (late.length - 1)).any fun k => decide (late[k + 1]!.1 ≤ late[k]!.1)) = false := by
    rw [List.any_eq_false]
    intro k hk
    have hk : k < late.length - 1 := List.mem_range.mp hk
    have := List.pairwise_iff_getElem.mp h.p k (k + 1) (by omega) (by omega) (by omega)
    rw [getElem!_pos late k (by omega), getElem!_pos late (k + 1) (by omega)]
    simpa using this
  rw [show (late.all fun _ => true) = true by simp] at k1
  rw [a2] at k2
  refine run_nx (e := [.v (eCr reach rows bar), .v (eLate late), .v (.bl true), .un, .un]) (putS (v := .bl true) (env' := [.v (eCr reach rows bar), .v (eLate late), .v (.bl true), .un, .un]) (andT ?_ (andT ?_ k1)) rfl (ifF (orF (notT ?_) k2) rfl)) rfl
  · simp [eP1, pN, plOf, res, pIsi, pIsI, R.bind, R.opt, eLate]
  · have : (late.length : Int) ≤ 4 := by omega
    simp [eP2, eP1, pA, eC, pN, plOf, res, pLen, pLe, R.bind, R.opt, eLate, this]
  · rfl
/-! ### where each stands -/
def stoodP (rows : List (List St3)) (one beat : Int) (late : List St3) : St3 :=
  match late.find? (fun t => decide (t.1 = one) && decide (t.2.1 ≤ beat)) with
  | some t => rows[one.toNat]![((beat - t.2.2) % (rows[one.toNat]!.length : Int)).toNat]!
  | none => rows[one.toNat]![(beat % (rows[one.toNat]!.length : Int)).toNat]!
theorem emod_in {a : Int} {n : Nat} (h : 0 < n) : 0 ≤ a % (n : Int) ∧ a % (n : Int) < n := ⟨Int.emod_nonneg _ (by omega), Int.emod_lt_of_pos _ (by omega)⟩
theorem pl_row (r : List St3) : pLen (eRow r) = some (.int r.length) := by simp [pLen, eRow]
theorem pmod_ok {a b : Int} (h : 0 < b) : pMod (.int a) (.int b) = some (.int (a % b)) := by simp [pMod, h]
theorem ev_stood (S : Sto) {reach : Int} {rows : List (List St3)} {bar : List Int} (h : Good reach rows bar) (late : List St3) {one : Int} (beat : Int) (h0 : 0 ≤ one) (h1 : one < rows.length) : f_stood [eCr reach rows bar, .int one, .int beat, eLate late] S = .ok (eS (stoodP rows one beat late)) S := by
  have hlt : one.toNat < rows.length := by omega
  have hmem : rows[one.toNat]! ∈ rows := by rw [getElem!_pos rows _ hlt]; exact List.getElem_mem _
  generalize hrow : rows[one.toNat]! = row at hmem
  have l0 := h.l0 row hmem
  have ix : ∀ b : Int, pIdx (eRow row) (.int (b % (row.length : Int))) = some (eS row[(b % (row.length : Int)).toNat]!) := fun b => by
    obtain ⟨x, y⟩ := emod_in (a := b) (n := row.length) (by omega)
    exact idx_t row eS x y
  have lp : (0 : Int) < row.length := by omega
  have fd := for_find (g := tgT [5, 6, 7]) (body := (sSeq (sIf (eAnd (eP2 pEq (pN 5) (pN 1)) (eP2 pGe (pN 2) (pN 6))) (sSeq (sRet (eP2 pIdx (pN 4) (pA (eP2 pMod (pA (eP2 pSub (pN 2) (pN 7))) (pA (eP1 pLen (pN 4))))))) (sNil)) (sNil)) (sNil))) (S := S) eS (fun t => decide (t.1 = one) && decide (t.2.1 ≤ beat)) (fun t => eS row[((beat - t.2.2) % (row.length : Int)).toNat]!)
    (fun env => ∃ x y z, env = [.v (eCr reach rows bar), .v (.int one), .v (.int beat), .v (eLate late), .v (eRow row), x, y, z] ∧ nlk x ∧ nlk y ∧ nlk z) late (fun t _ env hI => by
      obtain ⟨x, y, z, rfl, hx, hy, hz⟩ := hI
      refine ⟨[.v (eCr reach rows bar), .v (.int one), .v (.int beat), .v (eLate late), .v (eRow row), .v (.int t.1), .v (.int t.2.1), .v (.int t.2.2)], ?_, ?_⟩
      · cases x <;> cases y <;> cases z <;> first | rfl | exact absurd rfl (hx _) | exact absurd rfl (hy _) | exact absurd rfl (hz _)
      · by_cases c1 : t.1 = one
        · by_cases c2 : t.2.1 ≤ beat
          · rw [if_pos (by simp [c1, c2])]
            rw [ifE (k := true) (by simp [eAnd, eP2, pN, plOf, res, pEq, PV.sh, PV.eq, pGe, R.bind, R.opt, c1, c2])]
            rw [if_pos rfl]
            exact seqRt (retS (p2_ok pN_ok (pA_ok (p2_ok (pA_ok (p2_ok pN_ok pN_ok rfl)) (pA_ok (p1_ok pN_ok (pl_row row))) (pmod_ok lp))) (ix (beat - t.2.2))))
          · rw [if_neg (by simp [c2])]
            refine ⟨_, ifF (by simp [eAnd, eP2, pN, plOf, res, pEq, PV.sh, PV.eq, pGe, R.bind, R.opt, c1, c2]) rfl, _, _, _, rfl, nlk_v _, nlk_v _, nlk_v _⟩
        · rw [if_neg (by simp [c1])]
          have cb : (t.1 == one) = false := by simpa using c1
          refine ⟨_, ifF (by simp [eAnd, eP2, pN, plOf, res, pEq, PV.sh, PV.eq, pGe, R.bind, R.opt, cb]) rfl, _, _, _, rfl, nlk_v _, nlk_v _, nlk_v _⟩) [.v (eCr reach rows bar), .v (.int one), .v (.int beat), .v (eLate late), .v (eRow row), .un, .un, .un] ⟨_, _, _, rfl, nlk_un, nlk_un, nlk_un⟩
  have it : iP (pN 3) [.v (eCr reach rows bar), .v (.int one), .v (.int beat), .v (eLate late), .v (eRow row), .un, .un, .un] S = .ok (late.map eS) S := by
    simp [iP, pN, plOf, R.bind, R.opt, itemsOf, eLate]
  have hput : eP2 pIdx (pA (eP2 pIdx (pN 0) (pA (eC (.int 1))))) (pN 1) [.v (eCr reach rows bar), .v (.int one), .v (.int beat), .v (eLate late), .un, .un, .un, .un] S = .ok (eRow row) S := by
    have := idx_t rows eRow h0 h1
    rw [hrow] at this
    exact p2_ok (pA_ok (p2_ok pN_ok (pA_ok eC_ok) rfl)) pN_ok this
  refine run_rt (putS hput rfl ?_) rfl
  unfold stoodP
  rw [hrow]
  cases hf : late.find? (fun t => decide (t.1 = one) && decide (t.2.1 ≤ beat)) with
  | some t =>
    rw [hf] at fd
    exact step_forR it fd
  | none =>
    rw [hf] at fd
    obtain ⟨env', f1, x, y, z, rfl, _⟩ := fd
    exact forS it f1 (retS (p2_ok pN_ok (pA_ok (p2_ok pN_ok (pA_ok (p1_ok pN_ok (pl_row row))) (pmod_ok lp))) (ix beat)))
end M01

set_option maxRecDepth 100000
set_option maxHeartbeats 1000000
namespace M01
open PySem Hw Pg
theorem get_mem {α : Type} [Inhabited α] {l : List α} {i : Int} (h0 : 0 ≤ i) (h1 : i < l.length) : l[i.toNat]! ∈ l := by
  have : i.toNat < l.length := by omega
  rw [getElem!_pos l _ this]; exact List.getElem_mem _
theorem stood_mem {reach : Int} {rows : List (List St3)} {bar : List Int} (h : Good reach rows bar) (late : List St3) {one : Int} (beat : Int) (h0 : 0 ≤ one) (h1 : one < rows.length) : stoodP rows one beat late ∈ rows[one.toNat]! := by
  have hm := get_mem h0 h1
  have l0 := h.l0 _ hm
  unfold stoodP
  split
  · obtain ⟨x, y⟩ := emod_in (a := beat - (‹St3›).2.2) (n := rows[one.toNat]!.length) (by omega)
    exact get_mem x y
  · obtain ⟨x, y⟩ := emod_in (a := beat) (n := rows[one.toNat]!.length) (by omega)
    exact get_mem x y
theorem stood_ok {reach : Int} {rows : List (List St3)} {bar : List Int} (h : Good reach rows bar) (late : List St3) {one : Int} (beat : Int) (h0 : 0 ≤ one) (h1 : one < rows.length) : 0 ≤ (stoodP rows one beat late).2.2 ∧ (stoodP rows one beat late).2.2 ≤ 3 := by
  have := h.st _ (get_mem h0 h1) _ (stood_mem h late beat h0 h1)
  omega
def absI (i : Int) : Int := if i < 0 then -i else i
def wx (w : Int) : Int := if w = 0 then 1 else if w = 1 then 0 else if w = 2 then -1 else 0
def wy (w : Int) : Int := if w = 0 then 0 else if w = 1 then 1 else if w = 2 then 0 else -1
/-- one hears other -/
def hearP (reach : Int) (rows : List (List St3)) (one other beat : Int) (late : List St3) : Bool :=
  decide (one ≠ other) && (decide (absI ((stoodP rows other beat late).1 - (stoodP rows one beat late).1) + absI ((stoodP rows other beat late).2.1 - (stoodP rows one beat late).2.1) ≤ reach) &&
    decide (0 ≤ wx (stoodP rows one beat late).2.2 * ((stoodP rows other beat late).1 - (stoodP rows one beat late).1) + wy (stoodP rows one beat late).2.2 * ((stoodP rows other beat late).2.1 - (stoodP rows one beat late).2.1)))
theorem pEqI {a b : Int} : pEq (.int a) (.int b) = some (.bl (a == b)) := by simp [pEq, PV.sh, PV.eq]
theorem pNeI {a b : Int} : pNeK (.int a) (.int b) = some (.bl (!(a == b))) := by simp [pNeK, pNe, PV.sh, PV.eq]
theorem mul_s {a b : Int} (h : -5 < a ∧ a < 5) : pMul (.int a) (.int b) = some (.int (a * b)) := by
  have : cmulB a b = true := by
    unfold cmulB
    rw [Bool.or_eq_true, Bool.and_eq_true]
    exact .inl ⟨decide_eq_true (by omega), decide_eq_true (by omega)⟩
  simp [pMul, this]
theorem w_cases {w : Int} (h0 : 0 ≤ w) (h1 : w ≤ 3) : w = 0 ∨ w = 1 ∨ w = 2 ∨ w = 3 := by omega
theorem ways_ok {w : Int} (h0 : 0 ≤ w) (h1 : w ≤ 3) : pIdx (.tup [(.tup [(.int 1), (.int 0)]), (.tup [(.int 0), (.int 1)]), (.tup [(.int (-1)), (.int 0)]), (.tup [(.int 0), (.int (-1))])]) (.int w) = some (.tup [.int (wx w), .int (wy w)]) := by
  rcases w_cases h0 h1 with rfl | rfl | rfl | rfl <;> rfl
theorem w_small {w : Int} : -5 < wx w ∧ wx w < 5 ∧ -5 < wy w ∧ wy w < 5 := by
  unfold wx wy
  split
  · decide
  · split
    · decide
    · split <;> decide
theorem ev_heard (S : Sto) {reach : Int} {rows : List (List St3)} {bar : List Int} (h : Good reach rows bar) (late : List St3) {one other : Int} (beat : Int) (h0 : 0 ≤ one) (h1 : one < rows.length) (g0 : 0 ≤ other) (g1 : other < rows.length) :
    f_heard [eCr reach rows bar, .int one, .int other, .int beat, eLate late] S = .ok (.bl (hearP reach rows one other beat late)) S := by
  have e1 := ev_stood S h late beat h0 h1
  have e2 := ev_stood S h late beat g0 g1
  obtain ⟨w0, w1⟩ := stood_ok h late beat h0 h1
  unfold hearP
  generalize stoodP rows one beat late = s at *
  generalize stoodP rows other beat late = t at *
  obtain ⟨x, y, w⟩ := s
  obtain ⟨px, py, pw⟩ := t
  simp only at *
  obtain ⟨b1, b2, b3, b4⟩ := w_small (w := w)
  refine run_rt (putS (callS (aC eV_ok (aC eV_ok (aC eV_ok (aC eV_ok aN)))) e1) rfl (putS (callS (aC eV_ok (aC eV_ok (aC eV_ok (aC eV_ok aN)))) e2) rfl
    (parS (us := [.int (px - x), .int (py - y)]) (aC (p2_ok (pA_ok (p2_ok pN_ok (pA_ok eC_ok) rfl)) pN_ok rfl) (aC (p2_ok (pA_ok (p2_ok pN_ok (pA_ok eC_ok) rfl)) pN_ok rfl) aN)) rfl ?_))) rfl
  have hc : eOr (eP2 pEq (pN 1) (pN 2)) (eP2 pGt (pA (eP2 pAdd (pA (eP1 pAbs (pN 9))) (pA (eP1 pAbs (pN 10))))) (pA (eP2 pIdx (pN 0) (pA (eC (.int 0)))))) [.v (eCr reach rows bar), .v (.int one), .v (.int other), .v (.int beat), .v (eLate late), .v (eS (px, py, pw)), .v (.int x), .v (.int y), .v (.int w), .v (.int (px - x)), .v (.int (py - y))] S = .ok (.bl ((one == other) || decide (reach < absI (px - x) + absI (py - y)))) S := by
    have q1 : eP2 pEq (pN 1) (pN 2) [.v (eCr reach rows bar), .v (.int one), .v (.int other), .v (.int beat), .v (eLate late), .v (eS (px, py, pw)), .v (.int x), .v (.int y), .v (.int w), .v (.int (px - x)), .v (.int (py - y))] S = .ok (.bl (one == other)) S := p2_ok pN_ok pN_ok pEqI
    cases hb : (one == other) with
    | true => rw [hb] at q1; exact or_T q1
    | false =>
      rw [hb] at q1
      refine orF q1 (p2_ok (pA_ok (p2_ok (pA_ok (p1_ok pN_ok rfl)) (pA_ok (p1_ok pN_ok rfl)) rfl)) (pA_ok (p2_ok pN_ok (pA_ok eC_ok) rfl)) ?_)
      rfl
  refine (ifE hc).trans ?_
  by_cases c1 : one = other
  · rw [if_pos (by simp [c1])]
    exact (seqRt (retS rfl)).trans (by simp [c1])
  · by_cases c2 : reach < absI (px - x) + absI (py - y)
    · rw [if_pos (by simp [c2])]
      refine (seqRt (retS rfl)).trans ?_
      have : ¬ (absI (px - x) + absI (py - y) ≤ reach) := by omega
      simp [this]
    · rw [if_neg (by simp [c1, c2])]
      have c3 : absI (px - x) + absI (py - y) ≤ reach := by omega
      refine retS ?_
      have wy_ := ways_ok w0 w1
      refine p2_ok (pA_ok (p2_ok (pA_ok (p2_ok (pA_ok (p2_ok (pA_ok (p2_ok (pA_ok eC_ok) pN_ok wy_)) (pA_ok eC_ok) rfl)) pN_ok (mul_s ⟨b1, b2⟩))) (pA_ok (p2_ok (pA_ok (p2_ok (pA_ok (p2_ok (pA_ok eC_ok) pN_ok wy_)) (pA_ok eC_ok) rfl)) pN_ok (mul_s ⟨b3, b4⟩))) rfl)) (pA_ok eC_ok) ?_
      simp [pGe, c1, c3]
end M01

set_option maxRecDepth 100000
set_option maxHeartbeats 1000000
namespace M01
open PySem Hw Pg
def eK (k : Nat) : PV := .int (0 + (k : Int))
def earsN (reach : Int) (rows : List (List St3)) (teller beat : Int) (late : List St3) : List Nat := (List.range rows.length).filter fun (k : Nat) => hearP reach rows (0 + (k : Int)) teller beat late
theorem okN_s {j : Int} (h0 : -1000 ≤ j) (h1 : j ≤ 1000000) : okN j = true := by
  unfold okN
  rw [Bool.and_eq_true]
  exact ⟨decide_eq_true (by omega), decide_eq_true (by omega)⟩
theorem r1_ok {d : Ex} {env : En} {S : Sto} {j : Int} (h : d env S = .ok (.int j) S) (h0 : -1000 ≤ j) (h1 : j ≤ 1000000) : iR1 d env S = .ok ((List.range j.toNat).map eK) S := by
  unfold iR1
  rw [h]
  simp only [R.bind]
  rw [if_pos (okN_s h0 h1)]
  rfl
theorem iP_t {p : Plx} {env : En} {S : Sto} {xs : List PV} (h : p env S = .ok (.val (.tup xs)) S) : iP p env S = .ok xs S := by simp [iP, h, R.bind, R.opt, itemsOf]
theorem iP_l {p : Plx} {env : En} {S : Sto} {xs : List PV} (h : p env S = .ok (.val (.lst xs)) S) : iP p env S = .ok xs S := by simp [iP, h, R.bind, R.opt, itemsOf]
theorem len_rows (reach : Int) (rows : List (List St3)) (bar : List Int) : pLen (.tup (rows.map eRow)) = some (.int rows.length) := by simp [pLen]
theorem ev_ears (S : Sto) {reach : Int} {rows : List (List St3)} {bar : List Int} (h : Good reach rows bar) (late : List St3) {teller : Int} (beat : Int) (g0 : 0 ≤ teller) (g1 : teller < rows.length) :
    f_ears [eCr reach rows bar, .int teller, .int beat, eLate late] S = .ok (.tup ((earsN reach rows teller beat late).map eK)) S := by
  refine run_rt (retS (p1_ok (u := .lst ((earsN reach rows teller beat late).map eK)) (pA_ok ?_ rfl) rfl)) rfl
  have n1 := h.n1
  refine elc (env0 := [.v (eCr reach rows bar), .v (.int teller), .v (.int beat), .v (eLate late), .un]) (List.range rows.length) eK (fun k => hearP reach rows (0 + (k : Int)) teller beat late) eK ?_ rfl (by simp; omega) fun k hk => ?_
  · refine (r1_ok (j := rows.length) (p1_ok (pA_ok (p2_ok pN_ok (pA_ok eC_ok) rfl) rfl) (len_rows reach rows bar)) (by omega) (by omega)).trans ?_
    rfl
  · have hk := List.mem_range.mp hk
    exact ⟨[.v (eCr reach rows bar), .v (.int teller), .v (.int beat), .v (eLate late), .v (eK k)], rfl, callS (aC eV_ok (aC eV_ok (aC eV_ok (aC eV_ok (aC eV_ok aN))))) (ev_heard S h late beat (by omega) (by omega) g0 g1), fun _ => rfl⟩
theorem bls_t {w : Int} {b0 b1 b2 b3 : Bool} (h0 : 0 ≤ w) (h1 : w ≤ 3) : pIdx (.lst [.bl b0, .bl b1, .bl b2, .bl b3]) (.int w) = some (.bl (if w = 0 then b0 else if w = 1 then b1 else if w = 2 then b2 else b3)) := by
  rcases w_cases h0 h1 with rfl | rfl | rfl | rfl <;> rfl
theorem law_stand_eq : f_law_stand = f_stood := rfl
theorem max_abs (a b : Int) : pMax2 (.int (a - b)) (.int (b - a)) = some (.int (absI (a - b))) := by
  have e : (if b - a > a - b then b - a else a - b) = (if a - b < 0 then -(a - b) else a - b) := by split <;> split <;> omega
  show some (PV.int (if b - a > a - b then b - a else a - b)) = some (PV.int (if a - b < 0 then -(a - b) else a - b))
  rw [e]
theorem lstS {ds : Exs} {env : En} {S : Sto} {us : List PV} (h : ds env S = .ok us S) (hl : us.length ≤ 1000 := by exact Nat.le_of_ble_eq_true rfl) : eLst ds env S = .ok (.lst us) S := by simp [eLst, h, R.bind, hl]
theorem tupS {ds : Exs} {env : En} {S : Sto} {us : List PV} (h : ds env S = .ok us S) (hl : us.length ≤ 1000 := by exact Nat.le_of_ble_eq_true rfl) : eTup ds env S = .ok (.tup us) S := by simp [eTup, h, R.bind, hl]
theorem ev_law_hears (S : Sto) {reach : Int} {rows : List (List St3)} {bar : List Int} (h : Good reach rows bar) (late : List St3) {one other : Int} (beat : Int) (h0 : 0 ≤ one) (h1 : one < rows.length) (g0 : 0 ≤ other) (g1 : other < rows.length) :
    f_law_hears [eCr reach rows bar, .int one, .int other, .int beat, eLate late] S = .ok (.bl (hearP reach rows one other beat late)) S := by
  have e1 := ev_stood S h late beat h0 h1
  have e2 := ev_stood S h late beat g0 g1
  rw [← law_stand_eq] at e1 e2
  obtain ⟨w0, w1⟩ := stood_ok h late beat h0 h1
  unfold hearP
  generalize stoodP rows one beat late = s at *
  generalize stoodP rows other beat late = t at *
  obtain ⟨x, y, w⟩ := s
  obtain ⟨px, py, pw⟩ := t
  simp only at *
  refine run_rt (putS (callS (aC eV_ok (aC eV_ok (aC eV_ok (aC eV_ok aN)))) e1) rfl (putS (callS (aC eV_ok (aC eV_ok (aC eV_ok (aC eV_ok aN)))) e2) rfl
    (putS (v := .int (absI (px - x) + absI (py - y))) (p2_ok (pA_ok (p2_ok (pA_ok (p2_ok pN_ok pN_ok rfl)) (pA_ok (p2_ok pN_ok pN_ok rfl)) (max_abs px x))) (pA_ok (p2_ok (pA_ok (p2_ok pN_ok pN_ok rfl)) (pA_ok (p2_ok pN_ok pN_ok rfl)) (max_abs py y))) rfl) rfl
      (putS (p2_ok (pA_ok (lstS (aC (p2_ok pN_ok pN_ok rfl) (aC (p2_ok pN_ok pN_ok rfl) (aC (p2_ok pN_ok pN_ok rfl) (aC (p2_ok pN_ok pN_ok rfl) aN)))))) pN_ok (bls_t w0 w1)) rfl (retS ?_))))) rfl
  by_cases c1 : one = other
  · refine (and_F (S' := S) ((p2_ok pN_ok pN_ok pNeI).trans (by simp [c1]))).trans (by simp [c1])
  · refine andT ((p2_ok pN_ok pN_ok pNeI).trans (by simp [c1])) ?_
    have q : eP2 pLe (pN 5) (pA (eP2 pIdx (pN 0) (pA (eC (.int 0))))) [.v (eCr reach rows bar), .v (.int one), .v (.int other), .v (.int beat), .v (eLate late), .v (.int (absI (px - x) + absI (py - y))), .v (.bl (if w = 0 then decide (x ≤ px) else if w = 1 then decide (y ≤ py) else if w = 2 then decide (px ≤ x) else decide (py ≤ y))), .v (.int x), .v (.int y), .v (.int w), .v (.int px), .v (.int py), .v (.int pw)] S = .ok (.bl (decide (absI (px - x) + absI (py - y) ≤ reach))) S := p2_ok pN_ok (pA_ok (p2_ok pN_ok (pA_ok eC_ok) rfl)) rfl
    by_cases c2 : absI (px - x) + absI (py - y) ≤ reach
    · rw [decide_eq_true c2] at q
      refine andT q ((eV_ok (h := rfl)).trans ?_)
      rw [show decide (one ≠ other) = true by simp [c1], decide_eq_true c2]
      congr 2
      rcases w_cases w0 w1 with rfl | rfl | rfl | rfl <;> simp [wx, wy] <;> omega
    · rw [decide_eq_false c2] at q
      exact (and_F q).trans (by simp [c2])
theorem ev_law_ears (S : Sto) {reach : Int} {rows : List (List St3)} {bar : List Int} (h : Good reach rows bar) (late : List St3) {teller : Int} (beat : Int) (g0 : 0 ≤ teller) (g1 : teller < rows.length) :
    f_law_ears [eCr reach rows bar, .int teller, .int beat, eLate late] S = .ok (.lst ((earsN reach rows teller beat late).map eK)) S := by
  have n1 := h.n1
  refine run_rt (retS (elc (env0 := [.v (eCr reach rows bar), .v (.int teller), .v (.int beat), .v (eLate late), .un]) (List.range rows.length) eK (fun k => hearP reach rows (0 + (k : Int)) teller beat late) eK ?_ rfl (by simp; omega) fun k hk => ?_)) rfl
  · refine (r1_ok (j := rows.length) (p1_ok (pA_ok (p2_ok pN_ok (pA_ok eC_ok) rfl) rfl) (len_rows reach rows bar)) (by omega) (by omega)).trans ?_
    rfl
  · have hk := List.mem_range.mp hk
    exact ⟨[.v (eCr reach rows bar), .v (.int teller), .v (.int beat), .v (eLate late), .v (eK k)], rfl, callS (aC eV_ok (aC eV_ok (aC eV_ok (aC eV_ok (aC eV_ok aN))))) (ev_law_hears S h late beat (by omega) (by omega) g0 g1), fun _ => rfl⟩
/-! ### who may tell -/
def inB (bar : List Int) (a : Int) : Bool := bar.any fun b => b == a
theorem flat_ints : ∀ l : List Int, (l.map PV.int).all flatP = true
  | [] => rfl
  | a :: l => by simp [flatP, flat_ints l]
theorem in_t (bar : List Int) (a : Int) : pInX (.int a) (.tup (bar.map .int)) = some (.bl (inB bar a)) := by
  unfold pInX inB
  simp only [flat_ints]
  rw [if_pos (by rfl)]
  simp [List.any_map, Function.comp_def, PV.eq]
def mayP (reach : Int) (rows : List (List St3)) (bar : List Int) (teller beat : Int) (late : List St3) : Bool := !inB bar teller && !(earsN reach rows teller beat late).any fun k => inB bar (0 + (k : Int))
theorem ears_le {reach : Int} {rows : List (List St3)} {teller beat : Int} {late : List St3} : (earsN reach rows teller beat late).length ≤ rows.length := by
  unfold earsN
  exact Nat.le_trans (List.length_filter_le _ _) (by simp)
theorem ev_may_tell (S : Sto) {reach : Int} {rows : List (List St3)} {bar : List Int} (h : Good reach rows bar) (late : List St3) {teller : Int} (beat : Int) (g0 : 0 ≤ teller) (g1 : teller < rows.length) :
    f_may_tell [eCr reach rows bar, .int teller, .int beat, eLate late] S = .ok (.bl (mayP reach rows bar teller beat late)) S := by
  have n1 := h.n1
  have le := ears_le (reach := reach) (rows := rows) (teller := teller) (beat := beat) (late := late)
  have hc : eP2 pInX (pN 1) (pA (eP2 pIdx (pN 0) (pA (eC (.int 2))))) [.v (eCr reach rows bar), .v (.int teller), .v (.int beat), .v (eLate late), .un] S = .ok (.bl (inB bar teller)) S := p2_ok pN_ok (pA_ok (p2_ok pN_ok (pA_ok eC_ok) rfl) rfl) (in_t bar teller)
  refine run_rt ((ifE hc).trans ?_) rfl
  unfold mayP
  cases inB bar teller with
  | true => exact (if_pos rfl).trans (seqRt (retS rfl))
  | false =>
    refine (if_neg Bool.false_ne_true).trans (retS ?_)
    refine (not_ok (b := (earsN reach rows teller beat late).any fun k => inB bar (0 + (k : Int))) ?_).trans rfl
    refine any_lc (env0 := [.v (eCr reach rows bar), .v (.int teller), .v (.int beat), .v (eLate late), .un]) (earsN reach rows teller beat late) eK _ (iP_t ?_) rfl (by omega) fun k hk => ⟨[.v (eCr reach rows bar), .v (.int teller), .v (.int beat), .v (eLate late), .v (eK k)], rfl, p2_ok pN_ok (pA_ok (p2_ok pN_ok (pA_ok eC_ok) rfl) rfl) (in_t bar _)⟩
    unfold pA
    rw [callS (aC eV_ok (aC eV_ok (aC eV_ok (aC eV_ok aN)))) (ev_ears S h late beat g0 g1)]
    rfl
theorem sh_eK : ∀ (l : List Nat) (n : Nat), PV.shL (l.map eK) n = true
  | [], _ => rfl
  | a :: l, n => by
    show (PV.sh (eK a) n && PV.shL (l.map eK) n) = true
    rw [sh_eK l n]; rfl
theorem ne_nil (l : List Nat) : pNeK (.lst (l.map eK)) (.lst []) = some (.bl (!l.isEmpty)) := by
  have : (PV.lst (l.map eK)).sh 16 = true := sh_eK l 15
  simp only [pNeK, pNe, this]
  cases l <;> rfl
theorem filt_any {α : Type} (p : α → Bool) : ∀ l : List α, (!(l.filter p).isEmpty) = l.any p
  | [] => rfl
  | a :: l => by
    simp only [List.filter_cons, List.any_cons]
    cases p a with
    | true => simp
    | false => simpa using filt_any p l
theorem ev_law_let (S : Sto) {reach : Int} {rows : List (List St3)} {bar : List Int} (h : Good reach rows bar) (late : List St3) {teller : Int} (beat : Int) (g0 : 0 ≤ teller) (g1 : teller < rows.length) :
    f_law_let [eCr reach rows bar, .int teller, .int beat, eLate late] S = .ok (if mayP reach rows bar teller beat late then .lst ((earsN reach rows teller beat late).map eK) else .non) S := by
  have n1 := h.n1
  have le := ears_le (reach := reach) (rows := rows) (teller := teller) (beat := beat) (late := late)
  have e1 := ev_law_ears S h late beat g0 g1
  unfold mayP
  generalize earsN reach rows teller beat late = ks at *
  refine run_rt (putS (callS (aC eV_ok (aC eV_ok (aC eV_ok (aC eV_ok aN)))) e1) rfl ?_) rfl
  have hc : eOr (eP2 pInX (pN 1) (pA (eP2 pIdx (pN 0) (pA (eC (.int 2)))))) (eP2 pNeK (pA (eLC (iP (pN 4)) [5] (tgN 5) (eP2 pInX (pN 5) (pA (eP2 pIdx (pN 0) (pA (eC (.int 2)))))) (eVar 5))) (pA (eLst (esNil)))) [.v (eCr reach rows bar), .v (.int teller), .v (.int beat), .v (eLate late), .v (.lst (ks.map eK)), .un] S = .ok (.bl (inB bar teller || ks.any fun k => inB bar (0 + (k : Int)))) S := by
    have q : eP2 pInX (pN 1) (pA (eP2 pIdx (pN 0) (pA (eC (.int 2))))) [.v (eCr reach rows bar), .v (.int teller), .v (.int beat), .v (eLate late), .v (.lst (ks.map eK)), .un] S = .ok (.bl (inB bar teller)) S := p2_ok pN_ok (pA_ok (p2_ok pN_ok (pA_ok eC_ok) rfl) rfl) (in_t bar teller)
    cases hb : inB bar teller with
    | true => rw [hb] at q; exact or_T q
    | false =>
      rw [hb] at q
      refine orF q ?_
      have q2 := elc (it := iP (pN 4)) (vs := [5]) (g := tgN 5) (c := eP2 pInX (pN 5) (pA (eP2 pIdx (pN 0) (pA (eC (.int 2)))))) (e := eVar 5) (env := [.v (eCr reach rows bar), .v (.int teller), .v (.int beat), .v (eLate late), .v (.lst (ks.map eK)), .un]) (env0 := [.v (eCr reach rows bar), .v (.int teller), .v (.int beat), .v (eLate late), .v (.lst (ks.map eK)), .un]) (S := S) ks eK (fun k => inB bar (0 + (k : Int))) eK (iP_l rfl) rfl (by omega) fun k hk =>
        ⟨[.v (eCr reach rows bar), .v (.int teller), .v (.int beat), .v (eLate late), .v (.lst (ks.map eK)), .v (eK k)], rfl, p2_ok pN_ok (pA_ok (p2_ok pN_ok (pA_ok eC_ok) rfl) rfl) (in_t bar _), fun _ => rfl⟩
      refine (p2_ok (pA_ok q2 rfl) (pA_ok (lstS aN)) (ne_nil _)).trans ?_
      rw [filt_any, Bool.false_or]
  refine (ifE hc).trans ?_
  cases inB bar teller <;> cases (ks.any fun k => inB bar (0 + (k : Int))) <;> first | exact (if_pos rfl).trans (seqRt (retS rfl)) | exact (if_neg Bool.false_ne_true).trans (retS rfl)
end M01

set_option maxRecDepth 100000
set_option maxHeartbeats 1000000
namespace M01
open PySem Hw Pg
section
variable {reach : Int} {rows : List (List St3)} {bar : List Int} {late : List St3} {one beat : Int}
theorem ev_stand (S : Sto) (h : Good reach rows bar) (hl : GoodL rows.length late) (h0 : 0 ≤ one) (h1 : one < rows.length) (b0 : 0 ≤ beat) (b1 : beat ≤ 1000000000000) : f_stand [eCr reach rows bar, .int one, .int beat, eLate late] S = .ok (eS (stoodP rows one beat late)) S :=
  run_rt (exS (callS (aC eV_ok aN) (ev_look_crowd S h)) (exS (callS (aC eV_ok (aC eV_ok aN)) (ev_look_one S h0 h1)) (exS (callS (aC eV_ok aN) (ev_look_beat S beat ⟨b0, b1⟩)) (exS (callS (aC eV_ok (aC eV_ok aN)) (ev_look_lates S hl)) (retS (callS (aC eV_ok (aC eV_ok (aC eV_ok (aC eV_ok aN)))) (ev_stood S h late beat h0 h1))))))) rfl
theorem ev_hearers (S : Sto) (h : Good reach rows bar) (hl : GoodL rows.length late) (h0 : 0 ≤ one) (h1 : one < rows.length) (b0 : 0 ≤ beat) (b1 : beat ≤ 1000000000000) : f_hearers [eCr reach rows bar, .int one, .int beat, eLate late] S = .ok (.tup ((earsN reach rows one beat late).map eK)) S :=
  run_rt (exS (callS (aC eV_ok aN) (ev_look_crowd S h)) (exS (callS (aC eV_ok (aC eV_ok aN)) (ev_look_one S h0 h1)) (exS (callS (aC eV_ok aN) (ev_look_beat S beat ⟨b0, b1⟩)) (exS (callS (aC eV_ok (aC eV_ok aN)) (ev_look_lates S hl)) (retS (callS (aC eV_ok (aC eV_ok (aC eV_ok (aC eV_ok aN)))) (ev_ears S h late beat h0 h1))))))) rfl
theorem ev_is_let (S : Sto) (h : Good reach rows bar) (hl : GoodL rows.length late) (h0 : 0 ≤ one) (h1 : one < rows.length) (b0 : 0 ≤ beat) (b1 : beat ≤ 1000000000000) : f_is_let [eCr reach rows bar, .int one, .int beat, eLate late] S = .ok (.bl (mayP reach rows bar one beat late)) S :=
  run_rt (exS (callS (aC eV_ok aN) (ev_look_crowd S h)) (exS (callS (aC eV_ok (aC eV_ok aN)) (ev_look_one S h0 h1)) (exS (callS (aC eV_ok aN) (ev_look_beat S beat ⟨b0, b1⟩)) (exS (callS (aC eV_ok (aC eV_ok aN)) (ev_look_lates S hl)) (retS (callS (aC eV_ok (aC eV_ok (aC eV_ok (aC eV_ok aN)))) (ev_may_tell S h late beat h0 h1))))))) rfl
theorem goodL_nil (n : Nat) : GoodL n [] := ⟨by simp, fun t h => by simp at h, .nil⟩
end
/-! ### gcd, lcm -/
theorem whileS {c : Ex} {a r : Sm} {env env' : En} {S : Sto} {q : RS} (h : whileLoop c a fuel env S = .nx env' S) (h2 : r env' S = q) : sSeq (sWhile c a) r env S = q := by simp [sSeq, sWhile, h, h2]
theorem while_T {c : Ex} {a : Sm} {env env' : En} {S : Sto} {n : Nat} (h : c env S = .ok (.bl true) S) (h2 : a env S = .nx env' S) : whileLoop c a (n + 1) env S = whileLoop c a n env' S := by simp [whileLoop, h, h2]
theorem while_F {c : Ex} {a : Sm} {env : En} {S : Sto} {n : Nat} (h : c env S = .ok (.bl false) S) : whileLoop c a (n + 1) env S = .nx env S := by simp [whileLoop, h]
theorem common_loop (S : Sto) : ∀ (n m k : Nat), n < k → whileLoop (eP2 pNeK (pN 1) (pA (eC (.int 0)))) (sSeq (sPar [0, 1] (esCons (eVar 1) (esCons (eP2 pMod (pN 0) (pN 1)) (esNil)))) (sNil)) k [.v (.int (m : Int)), .v (.int (n : Int))] S = .nx [.v (.int (Nat.gcd m n : Int)), .v (.int 0)] S := by
  intro n
  induction n using Nat.strongRecOn with
  | ind n ih =>
    intro m k hk
    cases k with
    | zero => omega
    | succ k =>
      have hc : eP2 pNeK (pN 1) (pA (eC (.int 0))) [.v (.int (m : Int)), .v (.int (n : Int))] S = .ok (.bl (!((n : Int) == 0))) S := p2_ok pN_ok (pA_ok eC_ok) pNeI
      cases n with
      | zero => exact (while_F hc).trans (by simp)
      | succ n =>
        refine (while_T (env' := [.v (.int ((n + 1 : Nat) : Int)), .v (.int ((m % (n + 1) : Nat) : Int))]) (hc.trans ?_) ?_).trans ?_
        · congr 2
        · refine (parS (us := [.int ((n + 1 : Nat) : Int), .int ((m % (n + 1) : Nat) : Int)]) (aC eV_ok (aC (p2_ok pN_ok pN_ok ?_) aN)) rfl rfl)
          have : (0 : Int) < ((n + 1 : Nat) : Int) := by omega
          rw [pmod_ok this]
          rfl
        · have lt : m % (n + 1) < n + 1 := Nat.mod_lt _ (by omega)
          rw [ih (m % (n + 1)) lt (n + 1) k (by omega)]
          have e : Nat.gcd m (n + 1) = Nat.gcd (n + 1) (m % (n + 1)) := by
            rw [Nat.gcd_comm m (n + 1), Nat.gcd_rec (n + 1) m, Nat.gcd_comm]
          rw [e]
theorem ev_common (S : Sto) (m n : Nat) (h : n < 1000000) : f_common [.int (m : Int), .int (n : Int)] S = .ok (.int (Nat.gcd m n : Int)) S :=
  run_rt (whileS (common_loop S n m fuel h) (retS rfl)) rfl
def lcmL (rows : List (List St3)) (f : Nat) : Nat := rows.foldl (fun f r => Nat.lcm f r.length) f
theorem lcm_60 {a b : Nat} (ha : a ∣ 60) (h0 : 1 ≤ b) (h1 : b ≤ 6) : Nat.lcm a b ∣ 60 := by
  refine Nat.lcm_dvd ha ?_
  have : b = 1 ∨ b = 2 ∨ b = 3 ∨ b = 4 ∨ b = 5 ∨ b = 6 := by omega
  rcases this with rfl | rfl | rfl | rfl | rfl | rfl <;> decide
theorem lcmL_60 : ∀ (rows : List (List St3)) (f : Nat), (∀ r ∈ rows, 1 ≤ r.length ∧ r.length ≤ 6) → f ∣ 60 → lcmL rows f ∣ 60
  | [], f, _, h => h
  | r :: rows, f, hr, h => lcmL_60 rows _ (fun q hq => hr q (by simp [hq])) (lcm_60 h (hr r (by simp)).1 (hr r (by simp)).2)
theorem dvd_lcmL : ∀ (rows : List (List St3)) (f : Nat), f ∣ lcmL rows f ∧ ∀ r ∈ rows, r.length ∣ lcmL rows f
  | [], f => ⟨Nat.dvd_refl _, fun r h => by simp at h⟩
  | r :: rows, f => by
    obtain ⟨h1, h2⟩ := dvd_lcmL rows (Nat.lcm f r.length)
    refine ⟨Nat.dvd_trans (Nat.dvd_lcm_left _ _) h1, fun q hq => ?_⟩
    rcases List.mem_cons.mp hq with rfl | hq
    · exact Nat.dvd_trans (Nat.dvd_lcm_right _ _) h1
    · exact h2 q hq
theorem lcmL_dvd {n : Nat} : ∀ (rows : List (List St3)) (f : Nat), f ∣ n → (∀ r ∈ rows, r.length ∣ n) → lcmL rows f ∣ n
  | [], f, h, _ => h
  | r :: rows, f, h, hr => lcmL_dvd rows _ (Nat.lcm_dvd h (hr r (by simp))) fun q hq => hr q (by simp [hq])
theorem pos_60 {a : Nat} (h : a ∣ 60) : 1 ≤ a ∧ a ≤ 60 := ⟨Nat.pos_of_dvd_of_pos h (by decide), Nat.le_of_dvd (by decide) h⟩
theorem lcm_div (f n : Nat) : ((f : Int) * (n : Int)) / (Nat.gcd f n : Int) = ((Nat.lcm f n : Nat) : Int) := by
  unfold Nat.lcm
  rw [Int.natCast_ediv, Int.natCast_mul]
theorem round_step (S : Sto) (x0 x2 : PV) (r : List St3) (f : Nat) (f0 : 1 ≤ f) (f1 : f ≤ 60) (l1 : r.length ≤ 6) :
    sSeq (sPut (tgN 1) (eP2 pDiv (pA (eP2 pMul (pN 1) (pA (eP1 pLen (pN 3))))) (pA (eCall f_common (esCons (eVar 1) (esCons (eP1 pLen (pN 3)) (esNil))))))) (sNil) [.v x0, .v (.int (f : Int)), .v x2, .v (eRow r)] S = .nx [.v x0, .v (.int (Nat.lcm f r.length : Int)), .v x2, .v (eRow r)] S := by
  have g0 : 0 < Nat.gcd f r.length := Nat.gcd_pos_of_pos_left _ (by omega)
  have g1 : Nat.gcd f r.length ≤ f := Nat.le_of_dvd (by omega) (Nat.gcd_dvd_left _ _)
  have hm : pMul (.int (f : Int)) (.int (r.length : Int)) = some (.int ((f : Int) * (r.length : Int))) := by
    have : cmulB (f : Int) (r.length : Int) = true := by
      unfold cmulB
      rw [Bool.or_eq_true, Bool.and_eq_true]
      exact .inl ⟨decide_eq_true (by omega), decide_eq_true (by omega)⟩
    unfold pMul
    exact if_pos this
  have hd : pDiv (.int ((f : Int) * (r.length : Int))) (.int (Nat.gcd f r.length : Int)) = some (.int (Nat.lcm f r.length : Int)) := by
    have : (0 : Int) < (Nat.gcd f r.length : Int) ∧ (Nat.gcd f r.length : Int) < 1073741824 := by omega
    rw [← lcm_div]
    unfold pDiv
    exact if_pos this
  have hc : eCall f_common (esCons (eVar 1) (esCons (eP1 pLen (pN 3)) (esNil))) [.v x0, .v (.int (f : Int)), .v x2, .v (eRow r)] S = .ok (.int (Nat.gcd f r.length : Int)) S := callS (aC eV_ok (aC (p1_ok pN_ok (pl_row r)) aN)) (ev_common S f r.length (by omega))
  exact putS (p2_ok (pA_ok (p2_ok pN_ok (pA_ok (p1_ok pN_ok (pl_row r))) hm)) (pA_ok hc) hd) rfl rfl
theorem tg3 (x0 : PV) (f : PV) (x2 : PV) (x3 : SV) (v : PV) (h : nlk x3) : tgN 3 v [.v x0, .v f, .v x2, x3] = some [SV.v x0, .v f, .v x2, .v v] := by
  cases x3 <;> first | rfl | exact absurd rfl (h _)
theorem for_cons {g : Tgt} {body : Sm} {x : PV} {xs : List PV} {env env1 env2 : En} {S S2 : Sto} (h1 : g x env = some env1) (h2 : body env1 S = .nx env2 S2) : forLoop g body (x :: xs) env S = forLoop g body xs env2 S2 := by
  simp only [forLoop, h1, h2]
theorem round_in (S : Sto) (x0 : PV) (x2 : PV) (rows : List (List St3)) : ∀ (f : Nat) (x3 : SV), (∀ r ∈ rows, 1 ≤ r.length ∧ r.length ≤ 6) → f ∣ 60 → nlk x3 →
    ∃ y3, nlk y3 ∧ forLoop (tgN 3) (sSeq (sPut (tgN 1) (eP2 pDiv (pA (eP2 pMul (pN 1) (pA (eP1 pLen (pN 3))))) (pA (eCall f_common (esCons (eVar 1) (esCons (eP1 pLen (pN 3)) (esNil))))))) (sNil)) (rows.map eRow) [.v x0, .v (.int (f : Int)), .v x2, x3] S = .nx [.v x0, .v (.int (lcmL rows f : Int)), .v x2, y3] S := by
  induction rows with
  | nil => exact fun f x3 _ _ h => ⟨x3, h, rfl⟩
  | cons r rows ih =>
    intro f x3 hr hf h
    obtain ⟨l0, l1⟩ := hr r (by simp)
    obtain ⟨f0, f1⟩ := pos_60 hf
    obtain ⟨y3, hy, e⟩ := ih (Nat.lcm f r.length) (.v (eRow r)) (fun q hq => hr q (by simp [hq])) (lcm_60 hf l0 l1) (nlk_v _)
    exact ⟨y3, hy, (for_cons (tg3 x0 _ x2 x3 _ h) (round_step S x0 x2 r f f0 f1 l1)).trans e⟩
theorem ev_round_of (S : Sto) {reach : Int} {rows : List (List St3)} {bar : List Int} (h : Good reach rows bar) : f_round_of [.lst [eCr reach rows bar]] S = .ok (.int (lcmL rows 1 : Int)) S := by
  have hr : ∀ r ∈ rows, 1 ≤ r.length ∧ r.length ≤ 6 := fun r hr => ⟨h.l0 r hr, h.l1 r hr⟩
  obtain ⟨y3, hy, e1⟩ := round_in S (.lst [eCr reach rows bar]) (eCr reach rows bar) rows 1 .un hr (by decide) nlk_un
  have hb := forS (r := sNil) (q := .nx [.v (.lst [eCr reach rows bar]), .v (.int (lcmL rows 1 : Int)), .v (eCr reach rows bar), y3] S) (it := iP (pA (eP2 pIdx (pN 2) (pA (eC (.int 1)))))) (xs := rows.map eRow) (iP_t (by
    unfold pA
    rw [p2_ok (u := eCr reach rows bar) (v := .int 1) (z := .tup (rows.map eRow)) pN_ok ⟨_, rfl, rfl⟩ rfl]
    rfl)) e1 rfl
  exact run_rt (putS eC_ok rfl (forS (env' := [.v (.lst [eCr reach rows bar]), .v (.int (lcmL rows 1 : Int)), .v (eCr reach rows bar), y3]) (iP_l rfl) ((for_cons rfl hb).trans rfl) (retS rfl))) rfl
theorem ev_joint_round (S : Sto) {reach : Int} {rows : List (List St3)} {bar : List Int} (h : Good reach rows bar) : f_joint_round [eCr reach rows bar] S = .ok (.int (lcmL rows 1 : Int)) S :=
  run_rt (exS (callS (aC eV_ok aN) (ev_look_crowd S h)) (retS (callS (aC (lstS (aC eV_ok aN)) aN) (ev_round_of S h)))) rfl
end M01

set_option maxRecDepth 100000
set_option maxHeartbeats 1000000
namespace M01
open PySem Hw Pg
def eLen (r : List St3) : PV := .int r.length
theorem sh_int {α : Type} (enc : α → PV) (he : ∀ a, ∃ i, enc a = .int i) (n : Nat) : ∀ l : List α, PV.shL (l.map enc) n = true
  | [] => rfl
  | a :: l => by
    show (PV.sh (enc a) n && PV.shL (l.map enc) n) = true
    obtain ⟨i, e⟩ := he a
    rw [sh_int enc he n l, e]; rfl
theorem ne_nilG {xs : List PV} (h : PV.shL xs 15 = true) : pNeK (.lst xs) (.lst []) = some (.bl (!xs.isEmpty)) := by
  have : (PV.lst xs).sh 16 = true := h
  simp only [pNeK, pNe, this]
  cases xs <;> rfl
theorem size_loop (S : Sto) (x0 x2 : PV) (rows : List (List St3)) (hr : ∀ r ∈ rows, 1 ≤ r.length) (hl : rows.length ≤ 1000) (s4 s5 : SV) (h4 : s4 = .un) (h5 : s5 = .un) : ∀ (k n : Nat), 1 ≤ n → n ≤ lcmL rows 1 → lcmL rows 1 - n < k →
    whileLoop (eP2 pNeK (pA (eLC (iP (pN 1)) [4] (tgN 4) (eP2 pNeK (pA (eP2 pMod (pN 3) (pN 4))) (pA (eC (.int 0)))) (eVar 4))) (pA (eLst (esNil)))) (sSeq (sPut (tgN 3) (eP2 pAdd (pN 3) (pA (eC (.int 1))))) (sNil)) k [.v x0, .v (.lst (rows.map eLen)), .v x2, .v (.int (n : Int)), s4, s5] S
      = .nx [.v x0, .v (.lst (rows.map eLen)), .v x2, .v (.int (lcmL rows 1 : Int)), s4, s5] S := by
  subst h4 h5
  intro k
  induction k with
  | zero => intro n _ _ h; omega
  | succ k ih =>
    intro n n1 n2 hk
    have hc : eP2 pNeK (pA (eLC (iP (pN 1)) [4] (tgN 4) (eP2 pNeK (pA (eP2 pMod (pN 3) (pN 4))) (pA (eC (.int 0)))) (eVar 4))) (pA (eLst (esNil))) [.v x0, .v (.lst (rows.map eLen)), .v x2, .v (.int (n : Int)), .un, .un] S = .ok (.bl (rows.any fun r => !(((n : Int) % (r.length : Int)) == 0))) S := by
      rw [← filt_any]
      have q := elc (it := iP (pN 1)) (vs := [4]) (g := tgN 4) (c := eP2 pNeK (pA (eP2 pMod (pN 3) (pN 4))) (pA (eC (.int 0)))) (e := eVar 4) (env := [.v x0, .v (.lst (rows.map eLen)), .v x2, .v (.int (n : Int)), .un, .un]) (env0 := [.v x0, .v (.lst (rows.map eLen)), .v x2, .v (.int (n : Int)), .un, .un]) (S := S) rows eLen (fun r => !(((n : Int) % (r.length : Int)) == 0)) eLen (iP_l rfl) rfl (by omega) fun r hm =>
        ⟨[.v x0, .v (.lst (rows.map eLen)), .v x2, .v (.int (n : Int)), .v (eLen r), .un], rfl, p2_ok (pA_ok (p2_ok pN_ok pN_ok (pmod_ok (by have := hr r hm; omega)))) (pA_ok eC_ok) pNeI, fun _ => rfl⟩
      refine (p2_ok (pA_ok q rfl) (pA_ok (lstS aN)) (ne_nilG (sh_int eLen (fun r => ⟨_, rfl⟩) 15 _))).trans ?_
      congr 2
      cases rows.filter fun r => !(((n : Int) % (r.length : Int)) == 0) <;> rfl
    by_cases he : n = lcmL rows 1
    · have : (rows.any fun r => !(((n : Int) % (r.length : Int)) == 0)) = false := by
        rw [List.any_eq_false]
        intro r hm
        have hd := (dvd_lcmL rows 1).2 r hm
        rw [← he] at hd
        have : (n : Int) % (r.length : Int) = 0 := Int.emod_eq_zero_of_dvd (Int.natCast_dvd_natCast.mpr hd)
        simp [this]
      rw [this] at hc
      rw [← he]
      exact while_F hc
    · have : (rows.any fun r => !(((n : Int) % (r.length : Int)) == 0)) = true := by
        cases hn : (rows.any fun r => !(((n : Int) % (r.length : Int)) == 0)) with
        | true => rfl
        | false =>
          rw [List.any_eq_false] at hn
          have hd : lcmL rows 1 ∣ n := lcmL_dvd rows 1 (Nat.one_dvd _) fun r hm => by
            have z := hn r hm
            have z : (n : Int) % (r.length : Int) = 0 := by simpa using z
            exact Int.natCast_dvd_natCast.mp (Int.dvd_of_emod_eq_zero z)
          have := Nat.le_of_dvd (by omega) hd
          omega
      rw [this] at hc
      refine (while_T (env' := [.v x0, .v (.lst (rows.map eLen)), .v x2, .v (.int ((n + 1 : Nat) : Int)), .un, .un]) hc (putS (p2_ok pN_ok (pA_ok eC_ok) rfl) rfl rfl)).trans (ih (n + 1) (by omega) (by omega) (by omega))
theorem ev_law_size (S : Sto) {reach : Int} {rows : List (List St3)} {bar : List Int} (h : Good reach rows bar) : f_law_size [.lst [eCr reach rows bar]] S = .ok (.int (lcmL rows 1 : Int)) S := by
  have n1 := h.n1
  have hr : ∀ r ∈ rows, 1 ≤ r.length ∧ r.length ≤ 6 := fun r hr => ⟨h.l0 r hr, h.l1 r hr⟩
  obtain ⟨p0, p1⟩ := pos_60 (lcmL_60 rows 1 hr (by decide))
  have hb : sSeq (sPut (tgN 1) (eP2 pAdd (pN 1) (pA (eLC (iP (pA (eP2 pIdx (pN 2) (pA (eC (.int 1)))))) [5] (tgN 5) (eYes) (eP1 pLen (pN 5)))))) (sNil) [.v (.lst [eCr reach rows bar]), .v (.lst []), .v (eCr reach rows bar), .un, .un, .un] S = .nx [.v (.lst [eCr reach rows bar]), .v (.lst (rows.map eLen)), .v (eCr reach rows bar), .un, .un, .un] S := by
    have q := elc1 (it := iP (pA (eP2 pIdx (pN 2) (pA (eC (.int 1)))))) (vs := [5]) (g := tgN 5) (e := eP1 pLen (pN 5)) (env := [.v (.lst [eCr reach rows bar]), .v (.lst []), .v (eCr reach rows bar), .un, .un, .un]) (env0 := [.v (.lst [eCr reach rows bar]), .v (.lst []), .v (eCr reach rows bar), .un, .un, .un]) (S := S) rows eRow eLen (iP_t (by
      unfold pA
      rw [p2_ok (u := eCr reach rows bar) (v := .int 1) (z := .tup (rows.map eRow)) pN_ok ⟨_, rfl, rfl⟩ rfl]
      rfl)) rfl (by omega) fun r hm => ⟨[.v (.lst [eCr reach rows bar]), .v (.lst []), .v (eCr reach rows bar), .un, .un, .v (eRow r)], rfl, p1_ok pN_ok (pl_row r)⟩
    refine putS (p2_ok pN_ok (pA_ok q rfl) (z := .lst (rows.map eLen)) ?_) rfl rfl
    have : ([] : List PV).length + (rows.map eLen).length ≤ 1000000 := by simp; omega
    simp only [pAdd, this, if_true]
    rfl
  exact run_rt (putS (lstS aN) rfl (forS (env' := [.v (.lst [eCr reach rows bar]), .v (.lst (rows.map eLen)), .v (eCr reach rows bar), .un, .un, .un]) (iP_l rfl) ((for_cons rfl hb).trans rfl) (putS eC_ok rfl (whileS (size_loop S _ _ rows h.l0 (by omega) .un .un rfl rfl fuel 1 (by omega) p0 (by unfold fuel; omega)) (retS rfl))))) rfl
/-! ### the town -/
def TownR (rest S : Sto) : Prop := ∃ (N : List Int) (c : Int), N ≠ [] ∧ S = .lst (N.map .int) :: .lst [.ptr 0, .int c] :: rest
theorem TownR.len {rest S S' : Sto} (h : TownR rest S) (h' : TownR rest S') : S'.length = S.length := by
  obtain ⟨_, _, _, rfl⟩ := h
  obtain ⟨_, _, _, rfl⟩ := h'
  rfl
/-- a run that may change the town -/
theorem step_setC {o k d : Ex} {r : Sm} {env : En} {S S' : Sto} {v kv u u' : PV} {n : Nat} (hd : d env S = .ok v S) (ho : o env S = .ok (.ptr n) S) (hk : k env S = .ok kv S) (hu : S[n]? = some u) (hs : setP u kv v = some u') (hS : S.set n u' = S') : sSeq (sSetC o k d) r env S = r env S' := by
  simp [sSeq, sSetC, hd, ho, hk, hu, hs, hS]
theorem set_int (N : List Int) (j : Nat) (i : Int) : (N.map PV.int).set j (.int i) = (N.set j i).map .int := by
  rw [List.map_set]
theorem draw_ok {rest S : Sto} (h : TownR rest S) {n : Int} (h0 : 0 < n) (h1 : n < 1073741824) : ∃ r S', f_law_draw [.ptr 1, .int n] S = .ok (.int r) S' ∧ TownR rest S' ∧ 0 ≤ r ∧ r < n := by
  obtain ⟨N, c, hN, rfl⟩ := h
  have hlen : 0 < N.length := List.length_pos_iff.mpr hN
  have lp : (0 : Int) < (N.length : Int) := by omega
  obtain ⟨a0, a1⟩ := emod_in (a := c + 1) (n := N.length) hlen
  have hj : ((c + 1) % (N.length : Int)).toNat < N.length := by omega
  generalize hat : (c + 1) % (N.length : Int) = at_ at a0 a1 hj
  let S0 : Sto := .lst (N.map .int) :: .lst [.ptr 0, .int c] :: rest
  let S1 : Sto := .lst (N.map .int) :: .lst [.ptr 0, .int (c + 1)] :: rest
  have pl : pLen (.lst (N.map .int)) = some (.int N.length) := by simp [pLen]
  have ix : pIdx (.lst (N.map .int)) (.int at_) = some (.int N[at_.toNat]!) := idx_l N .int a0 a1
  generalize N[at_.toNat]! = cell at ix
  have e1 : eP2 pIdx (pN 0) (pA (eC (.int 0))) [.v (.ptr 1), .v (.int n), .un, .un, .un, .un] S0 = .ok (.ptr 0) S0 := p2_ok (pC_ok rfl rfl) (pA_ok eC_ok) rfl
  have e2 : eP2 pAdd (pA (eP2 pIdx (pN 0) (pA (eC (.int 1))))) (pA (eC (.int 1))) [.v (.ptr 1), .v (.int n), .v (.ptr 0), .un, .un, .un] S0 = .ok (.int (c + 1)) S0 := p2_ok (pA_ok (p2_ok (pC_ok rfl rfl) (pA_ok eC_ok) rfl)) (pA_ok eC_ok) rfl
  have e3 : eP2 pMod (pA (eP2 pIdx (pN 0) (pA (eC (.int 1))))) (pA (eP1 pLen (pN 2))) [.v (.ptr 1), .v (.int n), .v (.ptr 0), .un, .un, .un] S1 = .ok (.int at_) S1 := p2_ok (pA_ok (p2_ok (pC_ok rfl rfl) (pA_ok eC_ok) rfl)) (pA_ok (p1_ok (pC_ok rfl rfl) pl)) ((pmod_ok lp).trans (by rw [hat]))
  have e4 : eP2 pIdx (pN 2) (pN 3) [.v (.ptr 1), .v (.int n), .v (.ptr 0), .v (.int at_), .un, .un] S1 = .ok (.int cell) S1 := p2_ok (pC_ok rfl rfl) pN_ok ix
  have e5 : eP2 pGe (pN 4) (pA (eC (.int 1000000000000000000))) [.v (.ptr 1), .v (.int n), .v (.ptr 0), .v (.int at_), .v (.int cell), .un] S1 = .ok (.bl (decide (1000000000000000000 ≤ cell))) S1 := p2_ok pN_ok (pA_ok eC_ok) rfl
  have body : ∃ r S', d_law_draw [.v (.ptr 1), .v (.int n), .un, .un, .un, .un] S0 = .rt (.int r) S' ∧ TownR rest S' ∧ 0 ≤ r ∧ r < n := by
    have head : ∀ q, sSeq (sIf (eP2 pGe (pN 4) (pA (eC (.int 1000000000000000000)))) (sSeq (sSetC (eVar 2) (eVar 3) (eP2 pDiv (pN 4) (pN 1))) (sSeq (sRet (eP2 pMod (pN 4) (pN 1))) (sNil))) (sNil)) (sSeq (sPut (tgN 5) (eP2 pMod (pA (eP2 pAdd (pN 4) (pA (eP2 pMul (pA (eC (.int 104729))) (pA (eP2 pIdx (pN 0) (pA (eC (.int 1))))))))) (pA (eC (.int 4294967291))))) (sSeq (sPut (tgN 5) (eP2 pMod (pA (eP2 pPow (pN 5) (pA (eC (.int 5))))) (pA (eC (.int 4294967279))))) (sSeq (sRet (eP2 pMod (pA (eP2 pDiv (pA (eP2 pMod (pA (eP2 pAdd (pA (eP2 pMul (pA (eP2 pDiv (pN 5) (pA (eC (.int 64))))) (pA (eC (.int 69621))))) (pN 5))) (pA (eC (.int 4294967231))))) (pA (eC (.int 8))))) (pN 1))) (sNil)))) [.v (.ptr 1), .v (.int n), .v (.ptr 0), .v (.int at_), .v (.int cell), .un] S1 = q → d_law_draw [.v (.ptr 1), .v (.int n), .un, .un, .un, .un] S0 = q := fun q hq =>
      putS e1 rfl ((step_setC (S' := S1) (u' := .lst [.ptr 0, .int (c + 1)]) e2 eV_ok eC_ok rfl rfl rfl).trans (putS e3 rfl (putS e4 rfl hq)))
    by_cases hc : 1000000000000000000 ≤ cell
    · rw [decide_eq_true hc] at e5
      let S2 : Sto := .lst ((N.set at_.toNat (cell / n)).map .int) :: .lst [.ptr 0, .int (c + 1)] :: rest
      have e6 : eP2 pDiv (pN 4) (pN 1) [.v (.ptr 1), .v (.int n), .v (.ptr 0), .v (.int at_), .v (.int cell), .un] S1 = .ok (.int (cell / n)) S1 := p2_ok pN_ok pN_ok (show pDiv (.int cell) (.int n) = some (.int (cell / n)) by simp [pDiv, h0, h1])
      have e7 : eP2 pMod (pN 4) (pN 1) [.v (.ptr 1), .v (.int n), .v (.ptr 0), .v (.int at_), .v (.int cell), .un] S2 = .ok (.int (cell % n)) S2 := p2_ok pN_ok pN_ok (pmod_ok h0)
      refine ⟨cell % n, S2, head _ ((ifE e5).trans ((if_pos rfl).trans (seqRt ((step_setC (S' := S2) (u' := .lst ((N.set at_.toNat (cell / n)).map .int)) e6 eV_ok eV_ok rfl ?_ rfl).trans (retS e7))))), ⟨_, _, ?_, rfl⟩, Int.emod_nonneg _ (by omega), Int.emod_lt_of_pos _ h0⟩
      · unfold setP
        simp only [List.length_map]
        rw [ixN_in a0 a1, Option.map_some, set_int]
      · intro e
        have := congrArg List.length e
        simp at this
        exact hN this
    · rw [decide_eq_false hc] at e5
      have m1 : pMul (.int 104729) (.int (c + 1)) = some (.int (104729 * (c + 1))) := by
        unfold pMul
        exact if_pos (by unfold cmulB; rw [Bool.or_eq_true, Bool.and_eq_true]; exact .inl ⟨rfl, rfl⟩)
      have f1 : eP2 pMod (pA (eP2 pAdd (pN 4) (pA (eP2 pMul (pA (eC (.int 104729))) (pA (eP2 pIdx (pN 0) (pA (eC (.int 1))))))))) (pA (eC (.int 4294967291))) [.v (.ptr 1), .v (.int n), .v (.ptr 0), .v (.int at_), .v (.int cell), .un] S1 = .ok (.int ((cell + 104729 * (c + 1)) % 4294967291)) S1 :=
        p2_ok (pA_ok (p2_ok pN_ok (pA_ok (p2_ok (pA_ok eC_ok) (pA_ok (p2_ok (pC_ok rfl rfl) (pA_ok eC_ok) rfl)) m1)) rfl)) (pA_ok eC_ok) (pmod_ok (by decide))
      have b0 : 0 ≤ (cell + 104729 * (c + 1)) % 4294967291 := Int.emod_nonneg _ (by decide)
      have b1 : (cell + 104729 * (c + 1)) % 4294967291 < 4294967291 := Int.emod_lt_of_pos _ (by decide)
      generalize (cell + 104729 * (c + 1)) % 4294967291 = x1 at f1 b0 b1
      have m2 : pPow (.int x1) (.int 5) = some (.int (x1 ^ (5 : Int).toNat)) := by
        unfold pPow
        exact if_pos ⟨by decide, by decide, by omega⟩
      have f2 : eP2 pMod (pA (eP2 pPow (pN 5) (pA (eC (.int 5))))) (pA (eC (.int 4294967279))) [.v (.ptr 1), .v (.int n), .v (.ptr 0), .v (.int at_), .v (.int cell), .v (.int x1)] S1 = .ok (.int (x1 ^ (5 : Int).toNat % 4294967279)) S1 :=
        p2_ok (pA_ok (p2_ok pN_ok (pA_ok eC_ok) m2)) (pA_ok eC_ok) (pmod_ok (by decide))
      generalize x1 ^ (5 : Int).toNat % 4294967279 = x2 at f2
      have m3 : pMul (.int (x2 / 64)) (.int 69621) = some (.int (x2 / 64 * 69621)) := by
        unfold pMul
        exact if_pos (by unfold cmulB; rw [Bool.or_eq_true, Bool.and_eq_true, Bool.and_eq_true]; exact .inr ⟨rfl, rfl⟩)
      have f3 : eP2 pMod (pA (eP2 pDiv (pA (eP2 pMod (pA (eP2 pAdd (pA (eP2 pMul (pA (eP2 pDiv (pN 5) (pA (eC (.int 64))))) (pA (eC (.int 69621))))) (pN 5))) (pA (eC (.int 4294967231))))) (pA (eC (.int 8))))) (pN 1) [.v (.ptr 1), .v (.int n), .v (.ptr 0), .v (.int at_), .v (.int cell), .v (.int x2)] S1 = .ok (.int ((x2 / 64 * 69621 + x2) % 4294967231 / 8 % n)) S1 :=
        p2_ok (pA_ok (p2_ok (pA_ok (p2_ok (pA_ok (p2_ok (pA_ok (p2_ok (pA_ok (p2_ok pN_ok (pA_ok eC_ok) rfl)) (pA_ok eC_ok) m3)) pN_ok rfl)) (pA_ok eC_ok) (pmod_ok (by decide)))) (pA_ok eC_ok) rfl)) pN_ok (pmod_ok h0)
      exact ⟨_, S1, head _ ((ifE e5).trans ((if_neg Bool.false_ne_true).trans (putS f1 rfl (putS f2 rfl (retS f3))))), ⟨N, c + 1, hN, rfl⟩, Int.emod_nonneg _ (by omega), Int.emod_lt_of_pos _ h0⟩
  obtain ⟨r, S', hb, ht, hr⟩ := body
  exact ⟨r, S', run_rt hb (TownR.len ⟨N, c, hN, rfl⟩ ht), ht, hr⟩
end M01

set_option maxRecDepth 100000
set_option maxHeartbeats 1000000
namespace M01
open PySem Hw Pg
/-! ### runs that draw -/
inductive All2 {α β : Type} (P : α → β → Prop) : List α → List β → Prop
  | nil : All2 P [] []
  | cons {a : α} {b : β} {l : List α} {m : List β} : P a b → All2 P l m → All2 P (a :: l) (b :: m)
def EvI (d : Ex) (env : En) (S : Sto) (Q : PV → Sto → Prop) : Prop := ∃ v S', d env S = .ok v S' ∧ Q v S'
def EvL (d : Exs) (env : En) (S : Sto) (Q : List PV → Sto → Prop) : Prop := ∃ v S', d env S = .ok v S' ∧ Q v S'
def StI (d : Sm) (env : En) (S : Sto) (Q : En → Sto → Prop) : Prop := ∃ e S', d env S = .nx e S' ∧ Q e S'
def RtI (d : Sm) (env : En) (S : Sto) (Q : PV → Sto → Prop) : Prop := ∃ v S', d env S = .rt v S' ∧ Q v S'
section
variable {env env' : En} {S S' : Sto} {Q : PV → Sto → Prop} {QE : En → Sto → Prop} {QL : List PV → Sto → Prop} {d c a b : Ex} {ds : Exs} {u v z : PV} {f : PV → PV → Option PV} {f1 : PV → Option PV} {p q : Plx} {sa sb r : Sm} {g : Tgt} {it : Itx}
theorem eiP (h : d env S = .ok v S) (hq : Q v S) : EvI d env S Q := ⟨v, S, h, hq⟩
theorem ei1 (h : EvI d env S fun v S' => plOf v = .val v ∧ ∃ z, f1 v = some z ∧ Q z S') : EvI (eP1 f1 (pA d)) env S Q := by
  obtain ⟨v, S', h1, h2, z, h3, h4⟩ := h
  exact ⟨z, S', by simp [eP1, pA, h1, R.bind, h2, res, h3, R.opt], h4⟩
/-- a place that no store changes -/
def Fix (p : Plx) (env : En) (u : PV) : Prop := ∀ S, p env S = .ok (.val u) S
theorem fxN {i : Nat} (h : env[i]? = some (.v u) := by rfl) (hp : plOf u = .val u := by rfl) : Fix (pN i) env u := fun S => by simp [pN, h, hp]
theorem fxA (h : ∀ S, d env S = .ok u S) (hp : plOf u = .val u := by rfl) : Fix (pA d) env u := fun S => by simp [pA, h, R.bind, hp]
theorem fxC (hp : plOf u = .val u := by rfl) : Fix (pA (eC u)) env u := fun S => by simp [pA, eC, R.bind, hp]
theorem Fix.pl (h : Fix p env u) : PlE p env S u := ⟨_, h S, rfl⟩
theorem ei2r (ha : Fix p env u) (h : EvI d env S fun v S' => plOf v = .val v ∧ ∃ z, f u v = some z ∧ Q z S') : EvI (eP2 f p (pA d)) env S Q := by
  obtain ⟨v, S', h1, h2, z, h3, h4⟩ := h
  exact ⟨z, S', by simp [eP2, ha S, pA, h1, R.bind, h2, res, h3, R.opt], h4⟩
theorem ei2l (hb : Fix q env v) (h : EvI d env S fun u S' => plOf u = .val u ∧ ∃ z, f u v = some z ∧ Q z S') : EvI (eP2 f (pA d) q) env S Q := by
  obtain ⟨v, S', h1, h2, z, h3, h4⟩ := h
  exact ⟨z, S', by simp [eP2, hb S', pA, h1, R.bind, h2, res, h3, R.opt], h4⟩
theorem elN (h : QL [] S) : EvL esNil env S QL := ⟨[], S, rfl, h⟩
theorem elC (h : EvI d env S fun v S1 => EvL ds env S1 fun vs S2 => QL (v :: vs) S2) : EvL (esCons d ds) env S QL := by
  obtain ⟨v, S1, h1, vs, S2, h2, h3⟩ := h
  exact ⟨_, S2, by simp [esCons, h1, h2, R.bind], h3⟩
theorem eiT (h : EvL ds env S fun vs S' => vs.length ≤ 1000 ∧ Q (.tup vs) S') : EvI (eTup ds) env S Q := by
  obtain ⟨v, S1, h1, h2, h3⟩ := h
  exact ⟨_, S1, by simp [eTup, h1, R.bind, h2], h3⟩
theorem eiL (h : EvL ds env S fun vs S' => vs.length ≤ 1000 ∧ Q (.lst vs) S') : EvI (eLst ds) env S Q := by
  obtain ⟨v, S1, h1, h2, h3⟩ := h
  exact ⟨_, S1, by simp [eLst, h1, R.bind, h2], h3⟩
theorem eiCall {fn : Fn} (h : EvL ds env S fun us S1 => ∃ v S2, fn us S1 = .ok v S2 ∧ Q v S2) : EvI (eCall fn ds) env S Q := by
  obtain ⟨us, S1, h1, v, S2, h2, h3⟩ := h
  exact ⟨v, S2, by simp [eCall, h1, R.bind, h2], h3⟩
theorem eiIf (h : EvI c env S fun v S1 => ∃ k, v = .bl k ∧ if k = true then EvI a env S1 Q else EvI b env S1 Q) : EvI (eIf c a b) env S Q := by
  obtain ⟨v, S1, h1, k, rfl, h2⟩ := h
  cases k with
  | true =>
    obtain ⟨w, S2, h3, h4⟩ := (if_pos rfl).mp h2
    exact ⟨w, S2, by simp [eIf, h1, R.bind, h3], h4⟩
  | false =>
    obtain ⟨w, S2, h3, h4⟩ := (if_neg Bool.false_ne_true).mp h2
    exact ⟨w, S2, by simp [eIf, h1, R.bind, h3], h4⟩
theorem siPut (h : EvI d env S fun v S' => ∃ e, g v env = some e ∧ RtI r e S' Q) : RtI (sSeq (sPut g d) r) env S Q := by
  obtain ⟨v, S', h1, e, h2, w, S2, h3, h4⟩ := h
  exact ⟨w, S2, (step_put h1 h2).trans h3, h4⟩
theorem siPutN (h : EvI d env S fun v S' => ∃ e, g v env = some e ∧ StI r e S' QE) : StI (sSeq (sPut g d) r) env S QE := by
  obtain ⟨v, S', h1, e, h2, w, S2, h3, h4⟩ := h
  exact ⟨w, S2, (step_put h1 h2).trans h3, h4⟩
theorem siOwn {i : Nat} (h : EvI d env S fun v S' => ∃ e, setV i (.own v) env = some e ∧ RtI r e S' Q) : RtI (sSeq (sOwn i d) r) env S Q := by
  obtain ⟨v, S', h1, e, h2, w, S2, h3, h4⟩ := h
  exact ⟨w, S2, by simpa [sSeq, sOwn, h1, h2] using h3, h4⟩
theorem siOwnN {i : Nat} (h : EvI d env S fun v S' => ∃ e, setV i (.own v) env = some e ∧ StI r e S' QE) : StI (sSeq (sOwn i d) r) env S QE := by
  obtain ⟨v, S', h1, e, h2, w, S2, h3, h4⟩ := h
  exact ⟨w, S2, by simpa [sSeq, sOwn, h1, h2] using h3, h4⟩
theorem siRet (h : EvI d env S Q) : RtI (sSeq (sRet d) r) env S Q := by
  obtain ⟨v, S', h1, h2⟩ := h
  exact ⟨v, S', step_ret h1, h2⟩
theorem siNil (h : QE env S) : StI sNil env S QE := ⟨env, S, rfl, h⟩
theorem siNx (h : StI sa env S fun e S' => RtI r e S' Q) : RtI (sSeq sa r) env S Q := by
  obtain ⟨e, S', h1, v, S2, h2, h3⟩ := h
  exact ⟨v, S2, by simpa [sSeq, h1] using h2, h3⟩
theorem siNxN (h : StI sa env S fun e S' => StI r e S' QE) : StI (sSeq sa r) env S QE := by
  obtain ⟨e, S', h1, v, S2, h2, h3⟩ := h
  exact ⟨v, S2, by simpa [sSeq, h1] using h2, h3⟩
theorem siRt (h : RtI sa env S Q) : RtI (sSeq sa r) env S Q := by
  obtain ⟨v, S', h1, h2⟩ := h
  exact ⟨v, S', by simp [sSeq, h1], h2⟩
theorem siIf {k : Bool} (h : EvI c env S fun v S1 => v = .bl k ∧ if k = true then StI sa env S1 QE else StI sb env S1 QE) : StI (sIf c sa sb) env S QE := by
  obtain ⟨v, S1, h1, rfl, h2⟩ := h
  cases k with
  | true =>
    obtain ⟨w, S2, h3, h4⟩ := (if_pos rfl).mp h2
    exact ⟨w, S2, by simp [sIf, h1, h3], h4⟩
  | false =>
    obtain ⟨w, S2, h3, h4⟩ := (if_neg Bool.false_ne_true).mp h2
    exact ⟨w, S2, by simp [sIf, h1, h3], h4⟩
theorem siIfR (h : EvI c env S fun v S1 => ∃ k, v = .bl k ∧ if k = true then RtI sa env S1 Q else StI sb env S1 fun e S2 => RtI r e S2 Q) : RtI (sSeq (sIf c sa sb) r) env S Q := by
  obtain ⟨v, S1, h1, k, rfl, h2⟩ := h
  cases k with
  | true =>
    obtain ⟨w, S2, h3, h4⟩ := (if_pos rfl).mp h2
    exact ⟨w, S2, by simp [sSeq, sIf, h1, h3], h4⟩
  | false =>
    obtain ⟨e, S2, h3, w, S3, h4, h5⟩ := (if_neg Bool.false_ne_true).mp h2
    exact ⟨w, S3, by simpa [sSeq, sIf, h1, h3] using h4, h5⟩
theorem siApp {i : Nat} {xs : List PV} (h0 : env[i]? = some (.own (.lst xs))) (h : EvI d env S fun v S' => xs.length ≤ 1000000 ∧ QE (env.set i (.own (.lst (xs ++ [v])))) S') : StI (sApp i d) env S QE := by
  obtain ⟨v, S', h1, h2, h3⟩ := h
  exact ⟨_, S', by simp [sApp, h0, h1, appP, h2], h3⟩
theorem siFor {α : Type} {body : Sm} (l : List α) (enc : α → PV) (I : List α → En → Sto → Prop) (hi : it env S = .ok (l.map enc) S') (h0 : I [] env S')
    (h : ∀ done a rest, l = done ++ a :: rest → ∀ env S, I done env S → ∃ e1, g (enc a) env = some e1 ∧ StI body e1 S (I (done ++ [a]))) : StI (sFor it g body) env S (I l) := by
  have go : ∀ (rest done : List α) env S, l = done ++ rest → I done env S → ∃ e S', forLoop g body (rest.map enc) env S = .nx e S' ∧ I l e S' := by
    intro rest
    induction rest with
    | nil => intro done env S e hI; rw [List.append_nil] at e; subst e; exact ⟨env, S, rfl, hI⟩
    | cons a rest ih =>
      intro done env S e hI
      obtain ⟨e1, h1, e2, S2, h2, h3⟩ := h done a rest e env S hI
      obtain ⟨e3, S3, h4, h5⟩ := ih (done ++ [a]) e2 S2 (by rw [e]; simp) h3
      exact ⟨e3, S3, (for_cons h1 h2).trans h4, h5⟩
  obtain ⟨e, S2, h1, h2⟩ := go l [] env S' (by simp) h0
  exact ⟨e, S2, by simp [sFor, hi, h1], h2⟩
/-- a comprehension that draws -/
theorem eiLC {α β : Type} {vs : List Nat} {c e : Ex} {env0 : En} (l : List α) (enc : α → PV) (enc2 : β → PV) (I : Sto → Prop) (P : α → β → Prop) (hi : it env S = .ok (l.map enc) S') (hw : wipeE vs env = some env0) (hl : l.length ≤ 1000000) (h0 : I S')
    (h : ∀ a ∈ l, ∀ S, I S → ∃ e1, g (enc a) env0 = some e1 ∧ EvI c e1 S fun v S1 => ∃ k, v = .bl k ∧ I S1 ∧ (k = true → EvI e e1 S1 fun w S2 => ∃ b, w = enc2 b ∧ P a b ∧ I S2)) :
    EvI (eLC it vs g c e) env S fun v S2 => ∃ (l' : List α) (ys : List β), l'.Sublist l ∧ All2 P l' ys ∧ v = .lst (ys.map enc2) ∧ I S2 := by
  have go : ∀ (l : List α), (∀ a ∈ l, ∀ S, I S → ∃ e1, g (enc a) env0 = some e1 ∧ EvI c e1 S fun v S1 => ∃ k, v = .bl k ∧ I S1 ∧ (k = true → EvI e e1 S1 fun w S2 => ∃ b, w = enc2 b ∧ P a b ∧ I S2)) → ∀ S, I S →
      ∃ (l' : List α) (ys : List β) (S2 : Sto), l'.Sublist l ∧ All2 P l' ys ∧ lcLoop g c e env0 (l.map enc) S = .ok (ys.map enc2) S2 ∧ I S2 := by
    intro l
    induction l with
    | nil => exact fun _ S hS => ⟨[], [], S, .slnil, .nil, rfl, hS⟩
    | cons a l ih =>
      intro h S hS
      obtain ⟨e1, h1, v, S1, h2, k, rfl, h3, h4⟩ := h a (by simp) S hS
      cases k with
      | false =>
        obtain ⟨l', ys, S2, g1, g2, g3, g4⟩ := ih (fun b hb => h b (by simp [hb])) S1 h3
        exact ⟨l', ys, S2, .cons _ g1, g2, by simp [lcLoop, h1, h2, R.bind, g3], g4⟩
      | true =>
        obtain ⟨w, S2, g0, b, rfl, hp, hI⟩ := h4 rfl
        obtain ⟨l', ys, S3, g1, g2, g3, g4⟩ := ih (fun b hb => h b (by simp [hb])) S2 hI
        exact ⟨a :: l', b :: ys, S3, .cons₂ _ g1, .cons hp g2, by simp [lcLoop, h1, h2, R.bind, g0, g3], g4⟩
  obtain ⟨l', ys, S2, g1, g2, g3, g4⟩ := go l h S' h0
  exact ⟨_, S2, by simp [eLC, hi, R.bind, hw, hl, g3, R.noex], l', ys, g1, g2, rfl, g4⟩
end
/-! ### drawn things -/
theorem ei_draw {env : En} {S rest : Sto} {Q : PV → Sto → Prop} {d : Ex} {t n : Nat} {k : Int} (hT : TownR rest S) (ht : env[t]? = some (.v (.ptr 1))) (hd : d env S = .ok (.int k) S) (h0 : 0 < k) (h1 : k < 1073741824) (h : ∀ r S', TownR rest S' → 0 ≤ r → r < k → Q (.int r) S') : EvI (eCall f_law_draw (esCons (eVar t) (esCons d esNil))) env S Q := by
  obtain ⟨r, S', e, h2, h3, h4⟩ := draw_ok hT h0 h1
  exact ⟨.int r, S', callS2 (aC (eV_ok ht) (aC hd aN)) e, h r S' h2 h3 h4⟩
where
  callS2 {env : En} {S S' : Sto} {v : PV} {f : Fn} {ds : Exs} {us : List PV} (h : ds env S = .ok us S) (h2 : f us S = .ok v S') : eCall f ds env S = .ok v S' := by simp [eCall, h, R.bind, h2]
theorem ev_town (ns : List Int) : ∃ S', f_law_town [.kls ns] [] = .ok (.ptr 1) S' ∧ TownR [] S' := by
  cases ns with
  | nil => exact ⟨[.lst [.int 0], .lst [.ptr 0, .int 0]], rfl, [0], 0, by simp, rfl⟩
  | cons n ns => exact ⟨[.lst ((n :: ns).map .int), .lst [.ptr 0, .int 0]], rfl, n :: ns, 0, by simp, rfl⟩
theorem pick_ok {rest S : Sto} (h : TownR rest S) (xs : List PV) (h0 : xs ≠ []) (h1 : xs.length < 1000) (hp : ∀ x ∈ xs, plOf x = .val x) : ∃ x S', f_law_pick [.ptr 1, .lst xs] S = .ok x S' ∧ x ∈ xs ∧ TownR rest S' := by
  have l0 : 0 < xs.length := List.length_pos_iff.mpr h0
  have : EvI (eP2 pIdx (pN 1) (pA (eCall f_law_draw (esCons (eVar 0) (esCons (eP1 pLen (pN 1)) (esNil)))))) [.v (.ptr 1), .v (.lst xs)] S fun x S' => x ∈ xs ∧ TownR rest S' := by
    refine ei2r fxN (ei_draw (n := 0) h rfl (p1_ok pN_ok (show pLen (.lst xs) = some (.int xs.length) from rfl)) (by omega) (by omega) fun r S' hT r0 r1 => ⟨rfl, ?_⟩)
    have hr : r.toNat < xs.length := by omega
    refine ⟨xs[r.toNat], ?_, List.getElem_mem _, hT⟩
    show L2.atI xs r = _
    unfold L2.atI
    rw [ixN_in r0 r1]
    simp [hr]
  obtain ⟨x, S', e, hx, hT⟩ := this
  exact ⟨x, S', run_rt (step_ret e) (TownR.len h hT), hx, hT⟩
end M01

set_option maxRecDepth 100000
set_option maxHeartbeats 1000000
namespace M01
open PySem Hw Pg
theorem All2.same {α β : Type} {P : α → β → Prop} {f : β → α} (h : ∀ a b, P a b → f b = a) : ∀ {l : List α} {m : List β}, All2 P l m → m.map f = l
  | _, _, .nil => rfl
  | _, _, .cons p q => by rw [List.map_cons, h _ _ p, All2.same h q]
theorem All2.all {α β : Type} {P : α → β → Prop} {R : β → Prop} (h : ∀ a b, P a b → R b) : ∀ {l : List α} {m : List β}, All2 P l m → ∀ b ∈ m, R b
  | _, _, .nil => fun b hb => by simp at hb
  | _, _, .cons p q => fun b hb => by
    rcases List.mem_cons.mp hb with rfl | hb
    · exact h _ _ p
    · exact All2.all h q b hb
theorem All2.len {α β : Type} {P : α → β → Prop} : ∀ {l : List α} {m : List β}, All2 P l m → l.length = m.length
  | _, _, .nil => rfl
  | _, _, .cons _ q => by simp [All2.len q]
/-- those of 0 .. n - 1 that a test lets through -/
theorem some_ints {n : Nat} {l' : List Nat} (hs : l'.Sublist (List.range n)) : (∀ b ∈ l'.map fun k : Nat => 0 + (k : Int), 0 ≤ b ∧ b < (n : Int)) ∧ (l'.map fun k : Nat => 0 + (k : Int)).Pairwise (· < ·) ∧ (l'.map fun k : Nat => 0 + (k : Int)).length ≤ n := by
  refine ⟨fun b hb => ?_, ?_, ?_⟩
  · obtain ⟨k, hk, rfl⟩ := List.mem_map.mp hb
    have := List.mem_range.mp (hs.subset hk)
    omega
  · rw [List.pairwise_map]
    exact (List.pairwise_lt_range.sublist hs).imp fun h => by omega
  · rw [List.length_map]
    have := hs.length_le
    rwa [List.length_range] at this
/-- tuple([k for k in range(count) if draw(m) == 0]) -/
theorem ei_some {env env0 : En} {S rest : Sto} {Q : PV → Sto → Prop} {d dm : Ex} {t i : Nat} {n : Nat} {m : Int} (hT : TownR rest S) (hn : n ≤ 1000) (hd : d env S = .ok (.int n) S) (hw : wipeE [i] env = some env0) (hset : ∀ k : Nat, ∃ e, tgN i (eK k) env0 = some e ∧ e[t]? = some (.v (.ptr 1)) ∧ (∀ S, dm e S = .ok (.int m) S) ∧ e[i]? = some (.v (eK k))) (m0 : 0 < m) (m1 : m < 1073741824)
    (h : ∀ (l' : List Nat) S', l'.Sublist (List.range n) → TownR rest S' → Q (.tup (l'.map eK)) S') : EvI (eP1 pTuple (pA (eLC (iR1 d) [i] (tgN i) (eP2 pEq (pA (eCall f_law_draw (esCons (eVar t) (esCons dm esNil)))) (pA (eC (.int 0)))) (eVar i)))) env S Q := by
  refine ei1 ?_
  obtain ⟨v, S2, e, l', ys, h1, h2, h3, h4⟩ := eiLC (it := iR1 d) (vs := [i]) (g := tgN i) (c := eP2 pEq (pA (eCall f_law_draw (esCons (eVar t) (esCons dm esNil)))) (pA (eC (.int 0)))) (e := eVar i) (env := env) (S := S) (S' := S) (env0 := env0) (List.range n) eK eK (TownR rest) (fun a b => b = a) ((r1_ok (j := (n : Int)) hd (by omega) (by omega)).trans (by simp)) hw (by simp; omega) hT (fun k _ S hS => by
    obtain ⟨e, e1, e2, e3, e4⟩ := hset k
    refine ⟨e, e1, ei2l fxC (ei_draw (t := t) (n := 0) hS e2 (e3 S) m0 m1 fun r S' hT r0 r1 => ⟨rfl, _, pEqI, r == 0, rfl, hT, fun _ => ⟨_, S', eV_ok e4, k, rfl, rfl, hT⟩⟩)⟩)
  refine ⟨v, S2, e, ?_⟩
  subst h3
  have := All2.same (f := id) (fun a b e => e) h2
  rw [List.map_id] at this
  subst this
  exact ⟨rfl, _, rfl, h _ _ h1 h4⟩
theorem eK_int (l : List Nat) : l.map eK = (l.map fun k : Nat => 0 + (k : Int)).map PV.int := by simp [eK, Function.comp_def]
theorem some_ok {rest S : Sto} (h : TownR rest S) {n : Nat} {m : Int} (hn : n ≤ 1000) (m0 : 0 < m) (m1 : m < 1073741824) : ∃ (l' : List Nat) (S' : Sto), f_law_some [.ptr 1, .int n, .int m] S = .ok (.tup (l'.map eK)) S' ∧ l'.Sublist (List.range n) ∧ TownR rest S' := by
  have : EvI (eP1 pTuple (pA (eLC (iR1 (eVar 1)) [3] (tgN 3) (eP2 pEq (pA (eCall f_law_draw (esCons (eVar 0) (esCons (eVar 2) (esNil))))) (pA (eC (.int 0)))) (eVar 3)))) [.v (.ptr 1), .v (.int n), .v (.int m), .un] S fun v S' => ∃ l' : List Nat, v = .tup (l'.map eK) ∧ l'.Sublist (List.range n) ∧ TownR rest S' :=
    ei_some (env0 := [.v (.ptr 1), .v (.int n), .v (.int m), .un]) h hn eV_ok rfl (fun k => ⟨[.v (.ptr 1), .v (.int n), .v (.int m), .v (eK k)], rfl, rfl, fun _ => rfl, rfl⟩) m0 m1 fun l' S' h1 h2 => ⟨l', rfl, h1, h2⟩
  obtain ⟨v, S', e, l', rfl, h1, h2⟩ := this
  exact ⟨l', S', run_rt (step_ret e) (TownR.len h h2), h1, h2⟩
def StOk (s : St3) : Prop := -9 ≤ s.1 ∧ s.1 ≤ 9 ∧ -9 ≤ s.2.1 ∧ s.2.1 ≤ 9 ∧ 0 ≤ s.2.2 ∧ s.2.2 ≤ 3
theorem r1_impI {d : Ex} {env : En} {S S' : Sto} {i : Int} (h : d env S = .ok (.int i) S') (h0 : 0 ≤ i) (h1 : i ≤ 1000) : iR1 d env S = .ok ((List.range i.toNat).map eK) S' := by
  have h3 : okN i = true := okN_s (by omega) (by omega)
  unfold iR1
  rw [h]
  simp only [R.bind]
  rw [if_pos h3]
  rfl
theorem r1_imp {d : Ex} {env : En} {S S' : Sto} {j : Nat} (h : d env S = .ok (.int (j : Int)) S') (h1 : j ≤ 1000) : iR1 d env S = .ok ((List.range j).map eK) S' := by
  have e := r1_impI h (Int.natCast_nonneg j) (Int.ofNat_le.mpr h1)
  rw [Int.toNat_natCast] at e
  exact e
theorem ei_nat {env : En} {S rest : Sto} {Q : PV → Sto → Prop} {d : Ex} {t : Nat} {k : Int} {b : Nat} (hT : TownR rest S) (ht : env[t]? = some (.v (.ptr 1))) (hd : d env S = .ok (.int k) S) (h0 : 0 < k) (h1 : k < 1000) (h : ∀ (m : Nat) S', TownR rest S' → b ≤ m → (m : Int) < k + b → Q (.int m) S') : EvI (eP2 pAdd (pA (eC (.int b))) (pA (eCall f_law_draw (esCons (eVar t) (esCons d esNil))))) env S Q :=
  ei2r fxC (ei_draw (n := 0) hT ht hd h0 (by omega) fun r S' hT r0 r1 => ⟨rfl, .int (((b : Int) + r).toNat : Nat), (show some (PV.int ((b : Int) + r)) = _ by rw [Int.toNat_of_nonneg (by omega)]), h _ S' hT (by omega) (by omega)⟩)
theorem put_nlk {i : Nat} {x : SV} {v : SV} {env : En} (h : env[i]? = some x) (hx : nlk x) : setV i v env = some (env.set i v) := by
  unfold setV
  rw [h]
  cases x <;> first | rfl | exact absurd rfl (hx _)
/-- one row -/
theorem row_loop {S : Sto} (h : TownR [] S) (x0 x1 x5 : SV) (xs : List PV) {long broad step : Int} {k : Nat} {x9 : SV} (hx9 : nlk x9) (l0 : 1 ≤ long) (l1 : long ≤ 6) (b0 : 1 ≤ broad) (b1 : broad ≤ 4) (s0 : 0 ≤ step) (s1 : step ≤ 1) (hk : k < 6) (hbs : broad + step * 5 ≤ 9) :
    StI (sFor (iR1 (eP2 pAdd (pA (eC (.int 1))) (pA (eCall f_law_draw (esCons (eVar 0) (esCons (eVar 2) (esNil))))))) (tgN 9) (sSeq (sApp 8 (eTup (esCons (eP2 pAdd (pA (eP2 pMul (pN 7) (pN 4))) (pA (eCall f_law_draw (esCons (eVar 0) (esCons (eVar 6) (esNil)))))) (esCons (eCall f_law_draw (esCons (eVar 0) (esCons (eC (.int 2)) (esNil)))) (esCons (eCall f_law_draw (esCons (eVar 0) (esCons (eC (.int 4)) (esNil)))) (esNil)))))) (sNil)))
      [.v (.ptr 1), x1, .v (.int long), .own (.lst xs), .v (eK k), x5, .v (.int broad), .v (.int step), .own (.lst []), x9] S
      fun env S' => TownR [] S' ∧ ∃ (row : List St3) (y9 : SV), 1 ≤ row.length ∧ row.length ≤ 6 ∧ (∀ s ∈ row, StOk s) ∧ nlk y9 ∧ env = [.v (.ptr 1), x1, .v (.int long), .own (.lst xs), .v (eK k), x5, .v (.int broad), .v (.int step), .own (.lst (row.map eS)), y9] := by
  obtain ⟨v, S1, e, m, rfl, m0, m1, hT⟩ := ei_nat (b := 1) (t := 0) (d := eVar 2) (env := [.v (.ptr 1), x1, .v (.int long), .own (.lst xs), .v (eK k), x5, .v (.int broad), .v (.int step), .own (.lst []), x9]) (Q := fun v S' => ∃ m : Nat, v = .int m ∧ 1 ≤ m ∧ m ≤ 6 ∧ TownR [] S') h rfl eV_ok (by omega) (by omega) fun m S' hT a b => ⟨m, rfl, a, by omega, hT⟩
  have := siFor (it := iR1 (eP2 pAdd (pA (eC (.int 1))) (pA (eCall f_law_draw (esCons (eVar 0) (esCons (eVar 2) (esNil))))))) (g := tgN 9) (body := sSeq (sApp 8 (eTup (esCons (eP2 pAdd (pA (eP2 pMul (pN 7) (pN 4))) (pA (eCall f_law_draw (esCons (eVar 0) (esCons (eVar 6) (esNil)))))) (esCons (eCall f_law_draw (esCons (eVar 0) (esCons (eC (.int 2)) (esNil)))) (esCons (eCall f_law_draw (esCons (eVar 0) (esCons (eC (.int 4)) (esNil)))) (esNil)))))) (sNil)) (List.range m) eK
    (fun done env S' => TownR [] S' ∧ ∃ (row : List St3) (y9 : SV), row.length = done.length ∧ (∀ s ∈ row, StOk s) ∧ nlk y9 ∧ env = [.v (.ptr 1), x1, .v (.int long), .own (.lst xs), .v (eK k), x5, .v (.int broad), .v (.int step), .own (.lst (row.map eS)), y9]) (r1_imp e (by omega)) ⟨hT, [], x9, rfl, by simp, hx9, rfl⟩ ?_
  · obtain ⟨env, S2, h1, h2, row, y9, h3, h4, h5, h6⟩ := this
    rw [List.length_range] at h3
    exact ⟨env, S2, h1, h2, row, y9, by omega, by omega, h4, h5, h6⟩
  · rintro done a rest hd env S2 ⟨hT2, row, y9, hr, hs, hy, rfl⟩
    have hlen : done.length < m := by
      have := congrArg List.length hd
      simp at this
      omega
    refine ⟨[.v (.ptr 1), x1, .v (.int long), .own (.lst xs), .v (eK k), x5, .v (.int broad), .v (.int step), .own (.lst (row.map eS)), .v (eK a)], put_nlk rfl hy, siNxN ?_⟩
    refine siApp rfl (eiT (elC (ei2r (u := .int (step * (0 + (k : Int)))) (fxA fun S => p2_ok pN_ok pN_ok (mul_s (by omega))) (ei_draw (n := 0) hT2 rfl eV_ok (by omega) (by omega) fun r1 S3 hT3 r10 r11 => ⟨rfl, _, rfl, elC (ei_draw (n := 0) hT3 rfl eC_ok (by decide) (by decide) fun r2 S4 hT4 r20 r21 => elC (ei_draw (n := 0) hT4 rfl eC_ok (by decide) (by decide) fun r3 S5 hT5 r30 r31 => elN ⟨by simp, by simp; omega, siNil ⟨hT5, row ++ [(step * (0 + (k : Int)) + r1, r2, r3)], .v (eK a), by simp [hr], ?_, nlk_v _, ?_⟩⟩))⟩))))
    · intro s hsm
      rcases List.mem_append.mp hsm with h | h
      · exact hs s h
      · rw [List.mem_singleton] at h
        subst h
        have k0 : (0 : Int) ≤ 0 + (k : Int) := by omega
        have k1 : 0 + (k : Int) ≤ 5 := by omega
        have p0 : 0 ≤ step * (0 + (k : Int)) := Int.mul_nonneg s0 k0
        have p1 : step * (0 + (k : Int)) ≤ step * 5 := Int.mul_le_mul_of_nonneg_left k1 s0
        unfold StOk
        simp only
        omega
    · simp [eS]
end M01

set_option maxRecDepth 100000
set_option maxHeartbeats 1000000
namespace M01
open PySem Hw Pg
def RowOk (r : List St3) : Prop := 1 ≤ r.length ∧ r.length ≤ 6 ∧ ∀ s ∈ r, StOk s
theorem good_of {reach : Int} {rows : List (List St3)} {l' : List Nat} {count : Nat} (r0 : 0 ≤ reach) (r1 : reach ≤ 18) (hc : rows.length = count) (c0 : 2 ≤ count) (c1 : count ≤ 6) (hr : ∀ r ∈ rows, RowOk r) (hs : l'.Sublist (List.range count)) : Good reach rows (l'.map fun k : Nat => 0 + (k : Int)) := by
  obtain ⟨a, b, c⟩ := some_ints hs
  exact ⟨r0, r1, by omega, by omega, fun r h => (hr r h).1, fun r h => (hr r h).2.1, fun r h => (hr r h).2.2, by rw [hc]; exact a, b, by omega⟩
theorem rows_loop {S : Sto} (h : TownR [] S) {count : Nat} (c0 : 2 ≤ count) (c1 : count ≤ 6) {long broad step : Int} (l0 : 1 ≤ long) (l1 : long ≤ 6) (b0 : 1 ≤ broad) (b1 : broad ≤ 4) (s0 : 0 ≤ step) (s1 : step ≤ 1) (hbs : broad + step * 5 ≤ 9) :
    StI (sFor (iR1 (eVar 1)) (tgN 4) (sSeq (sOwn 8 (eLst (esNil))) (sSeq (sFor (iR1 (eP2 pAdd (pA (eC (.int 1))) (pA (eCall f_law_draw (esCons (eVar 0) (esCons (eVar 2) (esNil))))))) (tgN 9) (sSeq (sApp 8 (eTup (esCons (eP2 pAdd (pA (eP2 pMul (pN 7) (pN 4))) (pA (eCall f_law_draw (esCons (eVar 0) (esCons (eVar 6) (esNil)))))) (esCons (eCall f_law_draw (esCons (eVar 0) (esCons (eC (.int 2)) (esNil)))) (esCons (eCall f_law_draw (esCons (eVar 0) (esCons (eC (.int 4)) (esNil)))) (esNil)))))) (sNil))) (sSeq (sApp 3 (eP1 pTuple (pN 8))) (sNil)))))
      [.v (.ptr 1), .v (.int (count : Int)), .v (.int long), .own (.lst []), .un, .un, .v (.int broad), .v (.int step), .un, .un] S
      fun env S' => TownR [] S' ∧ ∃ (rows : List (List St3)) (x4 x8 x9 : SV), rows.length = count ∧ (∀ r ∈ rows, RowOk r) ∧ nlk x4 ∧ nlk x8 ∧ nlk x9 ∧ (∀ y, x4 ≠ .own y) ∧ env = [.v (.ptr 1), .v (.int (count : Int)), .v (.int long), .own (.lst (rows.map eRow)), x4, .un, .v (.int broad), .v (.int step), x8, x9] := by
  have := siFor (it := iR1 (eVar 1)) (g := tgN 4) (env := [.v (.ptr 1), .v (.int (count : Int)), .v (.int long), .own (.lst []), .un, .un, .v (.int broad), .v (.int step), .un, .un]) (body := (sSeq (sOwn 8 (eLst (esNil))) (sSeq (sFor (iR1 (eP2 pAdd (pA (eC (.int 1))) (pA (eCall f_law_draw (esCons (eVar 0) (esCons (eVar 2) (esNil))))))) (tgN 9) (sSeq (sApp 8 (eTup (esCons (eP2 pAdd (pA (eP2 pMul (pN 7) (pN 4))) (pA (eCall f_law_draw (esCons (eVar 0) (esCons (eVar 6) (esNil)))))) (esCons (eCall f_law_draw (esCons (eVar 0) (esCons (eC (.int 2)) (esNil)))) (esCons (eCall f_law_draw (esCons (eVar 0) (esCons (eC (.int 4)) (esNil)))) (esNil)))))) (sNil))) (sSeq (sApp 3 (eP1 pTuple (pN 8))) (sNil))))) (List.range count) eK
    (fun done env S' => TownR [] S' ∧ ∃ (rows : List (List St3)) (x4 x8 x9 : SV), rows.length = done.length ∧ (∀ r ∈ rows, RowOk r) ∧ nlk x4 ∧ nlk x8 ∧ nlk x9 ∧ (∀ y, x4 ≠ .own y) ∧ env = [.v (.ptr 1), .v (.int (count : Int)), .v (.int long), .own (.lst (rows.map eRow)), x4, .un, .v (.int broad), .v (.int step), x8, x9]) (S := S) (r1_imp eV_ok (by omega)) ⟨h, [], .un, .un, .un, rfl, by simp, nlk_un, nlk_un, nlk_un, fun _ => by simp, rfl⟩ ?_
  · obtain ⟨env, S2, h1, h2, rows, x4, x8, x9, h3, h4⟩ := this
    rw [List.length_range] at h3
    exact ⟨env, S2, h1, h2, rows, x4, x8, x9, h3, h4⟩
  · rintro done a rest hd env S2 ⟨hT, rows, x4, x8, x9, hr, hs, n4, n8, n9, o4, rfl⟩
    have ha : a = done.length := by
      have := congrArg (fun l : List Nat => l[done.length]?) hd
      simp at this
      have hlt : done.length < count := by
        have := congrArg List.length hd
        simp at this
        omega
      rw [List.getElem?_range hlt] at this
      simpa using this.symm
    have hlt : done.length < count := by
      have := congrArg List.length hd
      simp at this
      omega
    refine ⟨[.v (.ptr 1), .v (.int (count : Int)), .v (.int long), .own (.lst (rows.map eRow)), .v (eK a), .un, .v (.int broad), .v (.int step), x8, x9], put_nlk rfl n4, siOwnN (eiP (lstS aN) ⟨_, put_nlk rfl n8, siNxN ?_⟩)⟩
    obtain ⟨e3, S3, g1, hT3, row, y9, q0, q1, q2, q3, rfl⟩ := row_loop hT .un (.v (.int (count : Int))) .un (rows.map eRow) (k := a) n9 l0 l1 b0 b1 s0 s1 (by omega) hbs
    refine ⟨_, S3, g1, siNxN (siApp rfl (eiP (p1_ok (pO_ok rfl) rfl) ⟨by simp; omega, siNil ⟨hT3, rows ++ [row], .v (eK a), .own (.lst (row.map eS)), y9, by simp [hr], ?_, nlk_v _, fun _ => by simp, q3, fun _ => by simp, ?_⟩⟩))⟩
    · intro r hm
      rcases List.mem_append.mp hm with h | h
      · exact hs r h
      · rw [List.mem_singleton] at h
        subst h
        exact ⟨q0, q1, q2⟩
    · simp [eRow]
theorem crowd2 {S : Sto} (h : TownR [] S) {count : Nat} (c0 : 2 ≤ count) (c1 : count ≤ 6) {long : Int} (l0 : 1 ≤ long) (l1 : long ≤ 6) :
    RtI (sSeq (sOwn 3 (eLst (esNil))) (sSeq (sPut (tgT [6, 7]) (eCall f_law_pick (esCons (eVar 0) (esCons (eLst (esCons (eTup (esCons (eC (.int 4)) (esCons (eC (.int 0)) (esNil)))) (esCons (eTup (esCons (eC (.int 2)) (esCons (eC (.int 1)) (esNil)))) (esCons (eTup (esCons (eC (.int 2)) (esCons (eC (.int 1)) (esNil)))) (esCons (eTup (esCons (eC (.int 1)) (esCons (eC (.int 1)) (esNil)))) (esNil)))))) (esNil))))) (sSeq (sFor (iR1 (eVar 1)) (tgN 4) (sSeq (sOwn 8 (eLst (esNil))) (sSeq (sFor (iR1 (eP2 pAdd (pA (eC (.int 1))) (pA (eCall f_law_draw (esCons (eVar 0) (esCons (eVar 2) (esNil))))))) (tgN 9) (sSeq (sApp 8 (eTup (esCons (eP2 pAdd (pA (eP2 pMul (pN 7) (pN 4))) (pA (eCall f_law_draw (esCons (eVar 0) (esCons (eVar 6) (esNil)))))) (esCons (eCall f_law_draw (esCons (eVar 0) (esCons (eC (.int 2)) (esNil)))) (esCons (eCall f_law_draw (esCons (eVar 0) (esCons (eC (.int 4)) (esNil)))) (esNil)))))) (sNil))) (sSeq (sApp 3 (eP1 pTuple (pN 8))) (sNil))))) (sSeq (sPut (tgN 5) (eP1 pTuple (pA (eLC (iR1 (eVar 1)) [4] (tgN 4) (eP2 pEq (pA (eCall f_law_draw (esCons (eVar 0) (esCons (eC (.int 10)) (esNil))))) (pA (eC (.int 0)))) (eVar 4))))) (sSeq (sRet (eTup (esCons (eP2 pAdd (pA (eC (.int 1))) (pA (eP2 pDiv (pA (eCall f_law_draw (esCons (eVar 0) (esCons (eC (.int 5)) (esNil))))) (pA (eC (.int 2)))))) (esCons (eP1 pTuple (pN 3)) (esCons (eVar 5) (esNil)))))) (sNil))))))
      [.v (.ptr 1), .v (.int count), .v (.int long), .un, .un, .un, .un, .un, .un, .un] S fun v S' => ∃ reach rows bar, v = eCr reach rows bar ∧ TownR [] S' ∧ Good reach rows bar ∧ rows.length = count := by
  refine siOwn (eiP (lstS aN) ⟨_, rfl, siPut ?_⟩)
  obtain ⟨x, S1, e, hx, hT⟩ := pick_ok h [.tup [.int 4, .int 0], .tup [.int 2, .int 1], .tup [.int 2, .int 1], .tup [.int 1, .int 1]] (by simp) (by simp) (by simp [plOf])
  obtain ⟨broad, step, rfl, hb0, hb1, hs0, hs1, hbs⟩ : ∃ broad step : Int, x = .tup [.int broad, .int step] ∧ 1 ≤ broad ∧ broad ≤ 4 ∧ 0 ≤ step ∧ step ≤ 1 ∧ broad + step * 5 ≤ 9 := by
    simp at hx
    rcases hx with rfl | rfl | rfl <;> exact ⟨_, _, rfl, by decide, by decide, by decide, by decide, by decide⟩
  refine eiCall (elC (eiP eV_ok (elC (eiP (lstS (aC (tupS (aC eC_ok (aC eC_ok aN))) (aC (tupS (aC eC_ok (aC eC_ok aN))) (aC (tupS (aC eC_ok (aC eC_ok aN))) (aC (tupS (aC eC_ok (aC eC_ok aN))) aN))))) (elN ⟨_, S1, e, _, rfl, siNx ?_⟩)))))
  obtain ⟨e2, S2, g1, hT2, rows, x4, x8, x9, hr, hro, n4, n8, n9, o4, rfl⟩ := rows_loop hT c0 c1 l0 l1 hb0 hb1 hs0 hs1 hbs
  refine ⟨_, S2, g1, siPut ?_⟩
  have hw : ∃ env0, wipeE [4] [SV.v (.ptr 1), .v (.int (count : Int)), .v (.int long), .own (.lst (rows.map eRow)), x4, .un, .v (.int broad), .v (.int step), x8, x9] = some env0 ∧ env0 = [SV.v (.ptr 1), .v (.int (count : Int)), .v (.int long), .own (.lst (rows.map eRow)), .un, .un, .v (.int broad), .v (.int step), x8, x9] := by
    cases x4 with
    | un => exact ⟨_, rfl, rfl⟩
    | v _ => exact ⟨_, rfl, rfl⟩
    | own _ => exact absurd rfl (o4 _)
    | lk _ => exact absurd rfl (n4 _)
  obtain ⟨env0, hw, rfl⟩ := hw
  refine ei_some (t := 0) (n := count) (m := 10) hT2 (by omega) eV_ok hw (fun k => ⟨_, rfl, rfl, fun _ => rfl, rfl⟩) (by decide) (by decide) fun l' S3 hs3 hT3 => ⟨_, rfl, siRet ?_⟩
  refine eiT (elC (ei2r fxC (ei2l fxC (ei_draw (n := 0) hT3 rfl eC_ok (by decide) (by decide) fun r S4 hT4 r0 r1 => ⟨rfl, .int (r / 2), rfl, rfl, .int (1 + r / 2), rfl, elC (eiP (p1_ok (pO_ok rfl) rfl) (elC (eiP eV_ok (elN ⟨by simp, 1 + r / 2, rows, l'.map fun k : Nat => 0 + (k : Int), ?_, hT4, good_of (by omega) (by omega) hr c0 c1 hro hs3, hr⟩))))⟩))))
  rw [eK_int]
  rfl
end M01

set_option maxRecDepth 100000
set_option maxHeartbeats 1000000
namespace M01
open PySem Hw Pg
section
variable {env env' : En} {S S' : Sto} {Q : PV → Sto → Prop} {QE : En → Sto → Prop} {d c a b k o : Ex} {sa sb r : Sm}
theorem siAppC {n : Nat} {xs : List PV} (ho : o env S = .ok (.ptr n) S) (h1 : S[n]? = some (.lst xs)) (hd : EvI d env S fun v S' => ∃ ys, S'[n]? = some (.lst ys) ∧ ys.length ≤ 1000000 ∧ QE env (S'.set n (.lst (ys ++ [v])))) : StI (sAppC o d) env S QE := by
  obtain ⟨v, S', h2, ys, h3, h4, h5⟩ := hd
  exact ⟨env, _, by simp [sAppC, ho, h1, h2, h3, appP, h4], h5⟩
theorem siPop {t i : Nat} {xs : List PV} (h0 : env[i]? = some (.own (.lst xs))) (hn : t ≠ i) (hk : EvI k env S fun v S' => ∃ u y e, popP (.lst xs) v = some (u, y) ∧ setV t (.v y) (env.set i (.own u)) = some e ∧ QE e S') : StI (sPop t i k) env S QE := by
  obtain ⟨v, S', h1, u, y, e, h2, h3, h4⟩ := hk
  exact ⟨e, S', by simp [sPop, h0, h1, h2, h3, hn], h4⟩
theorem siWhile (I : Nat → En → Sto → Prop) (h : ∀ m env S, I m env S → ∃ q, c env S = .ok (.bl q) S ∧ if q = true then StI sa env S fun e S' => ∃ m', m' < m ∧ I m' e S' else QE env S) : ∀ (n m : Nat) env S, m < n → I m env S → ∃ e S', whileLoop c sa n env S = .nx e S' ∧ QE e S' := by
  intro n
  induction n with
  | zero => intro m env S hm; omega
  | succ n ih =>
    intro m env S hm hI
    obtain ⟨q, hc, hq⟩ := h m env S hI
    cases q with
    | true =>
      obtain ⟨e, S', h1, m', h2, h3⟩ := (if_pos rfl).mp hq
      obtain ⟨e2, S2, h4, h5⟩ := ih m' e S' (by omega) h3
      exact ⟨e2, S2, (by simp [whileLoop, hc, h1, h4]), h5⟩
    | false => exact ⟨env, S, while_F hc, (if_neg Bool.false_ne_true).mp hq⟩
theorem siIfS {q : Bool} (h1 : c env S = .ok (.bl q) S) (h : if q = true then StI sa env S QE else StI sb env S QE) : StI (sIf c sa sb) env S QE := by
  cases q with
  | true =>
    obtain ⟨w, S2, h3, h4⟩ := (if_pos rfl).mp h
    exact ⟨w, S2, by simp [sIf, h1, h3], h4⟩
  | false =>
    obtain ⟨w, S2, h3, h4⟩ := (if_neg Bool.false_ne_true).mp h
    exact ⟨w, S2, by simp [sIf, h1, h3], h4⟩
end
/-! ### boxes -/
theorem box_loop (env0 : En) (hw : ∃ x, env0[10]? = some x ∧ nlk x) : ∀ (l : List Nat) (S : Sto), lcLoop (tgN 10) eYes (eBox (eLst esNil)) env0 (l.map eK) S = .ok ((List.range l.length).map fun i => .ptr (S.length + i)) (S ++ List.replicate l.length (.lst [])) := by
  obtain ⟨x, h1, h2⟩ := hw
  intro l
  induction l with
  | nil => intro S; simp [lcLoop]
  | cons a l ih =>
    intro S
    have ih := ih (S ++ [.lst []])
    have e1 : tgN 10 (eK a) env0 = some (env0.set 10 (.v (eK a))) := put_nlk h1 h2
    have e2 : eBox (eLst esNil) (env0.set 10 (.v (eK a))) S = .ok (.ptr S.length) (S ++ [.lst []]) := rfl
    rw [List.map_cons, lcLoop, e1]
    simp only [eYes, R.bind, e2, ih]
    congr 1
    · rw [List.length_cons, List.range_succ_eq_map, List.map_cons, List.map_map]
      simp [Function.comp_def]
      intro i _
      omega
    · rw [List.append_assoc]
      rfl
def cells (rows : List (List St3)) : List PV := rows.map fun r => .lst (r.map eS)
def ptrs (n : Nat) : List PV := (List.range n).map fun i => .ptr (2 + i)
theorem cell_at {rows : List (List St3)} {S : Sto} (h : TownR (cells rows) S) {i : Nat} (hi : i < rows.length) : S[2 + i]? = some (.lst (rows[i].map eS)) := by
  obtain ⟨N, c, _, rfl⟩ := h
  rw [Nat.add_comm]
  simp [cells, hi]
theorem cell_set {rows : List (List St3)} {S : Sto} (h : TownR (cells rows) S) (i : Nat) (row : List St3) : TownR (cells (rows.set i row)) (S.set (2 + i) (.lst (row.map eS))) := by
  obtain ⟨N, c, hN, rfl⟩ := h
  refine ⟨N, c, hN, ?_⟩
  rw [Nat.add_comm]
  simp [cells, List.map_set]
theorem erase_map {α β : Type} (f : α → β) : ∀ (l : List α) (i : Nat), (l.map f).eraseIdx i = (l.eraseIdx i).map f
  | [], _ => rfl
  | _ :: _, 0 => rfl
  | a :: l, i + 1 => by simp [erase_map f l i]
theorem pop_at (L : List Nat) {j : Int} (h0 : 0 ≤ j) (h1 : j < L.length) (hl : L.length ≤ 1000) : popP (.lst (L.map eK)) (.int j) = some (.lst ((L.eraseIdx j.toNat).map eK), eK (L[j.toNat]!)) := by
  have hi : j.toNat < L.length := by omega
  have e1 : seqIndex? j (L.map eK).length = some j.toNat := by
    unfold seqIndex?
    have n0 : ¬ j < 0 := by omega
    simp [n0, h0, h1]
  have e2 : (decide (-(2 ^ 63) ≤ j) && decide (j < 2 ^ 63)) = true := by
    rw [Bool.and_eq_true]
    exact ⟨decide_eq_true (by omega), decide_eq_true (by omega)⟩
  unfold popP
  dsimp only
  rw [if_pos e2, e1]
  simp [hi, erase_map]
end M01

set_option maxRecDepth 100000
set_option maxHeartbeats 1000000
namespace M01
open PySem Hw Pg
/-- who is still left: each row has its stands of the beats before, and one more where its own is not left -/
structure Lf (count beat : Nat) (L : List Nat) (rows : List (List St3)) : Prop where
  nd : L.Nodup
  lt : ∀ a ∈ L, a < count
  rl : rows.length = count
  ln : ∀ (i : Nat) (r : List St3), rows[i]? = some r → r.length = beat + (if i ∈ L then 0 else 1)
  ok : ∀ r ∈ rows, ∀ s ∈ r, StOk s
theorem erase_mem {L : List Nat} (nd : L.Nodup) {j : Nat} (hj : j < L.length) (i : Nat) : i ∈ L.eraseIdx j ↔ i ∈ L ∧ i ≠ L[j] := by
  induction L generalizing j with
  | nil => simp at hj
  | cons a L ih =>
    rw [List.nodup_cons] at nd
    cases j with
    | zero =>
      simp only [List.eraseIdx_cons_zero, List.getElem_cons_zero, List.mem_cons]
      constructor
      · exact fun h => ⟨.inr h, fun e => nd.1 (e ▸ h)⟩
      · rintro ⟨h | h, h2⟩
        · exact absurd h h2
        · exact h
    | succ j =>
      have hj' : j < L.length := by simpa using hj
      simp only [List.eraseIdx_cons_succ, List.getElem_cons_succ, List.mem_cons, ih nd.2 hj']
      constructor
      · rintro (h | ⟨h, h2⟩)
        · exact ⟨.inl h, fun e => nd.1 (by rw [← h, e]; exact List.getElem_mem _)⟩
        · exact ⟨.inr h, h2⟩
      · rintro ⟨h | h, h2⟩
        · exact .inl h
        · exact .inr ⟨h, h2⟩
theorem Lf.step {count beat : Nat} {L : List Nat} {rows : List (List St3)} (h : Lf count beat L rows) {j : Nat} (hj : j < L.length) (hr : L[j] < rows.length) {s : St3} (hs : StOk s) : Lf count beat (L.eraseIdx j) (rows.set L[j] (rows[L[j]] ++ [s])) := by
  refine ⟨h.nd.sublist (List.eraseIdx_sublist ..), fun a ha => h.lt a ((erase_mem h.nd hj a).mp ha).1, by simp [h.rl], fun i r hi => ?_, fun r hm t ht => ?_⟩
  · by_cases e : i = L[j]
    · subst e
      rw [List.getElem?_set_self hr] at hi
      cases hi
      have := h.ln L[j] rows[L[j]] (List.getElem?_eq_getElem hr)
      rw [if_pos (List.getElem_mem hj)] at this
      rw [if_neg (fun q => ((erase_mem h.nd hj _).mp q).2 rfl)]
      simp [this]
    · rw [List.getElem?_set_ne (Ne.symm e)] at hi
      rw [h.ln i r hi]
      congr 1
      have : (i ∈ L.eraseIdx j) ↔ i ∈ L := by rw [erase_mem h.nd hj]; exact ⟨fun q => q.1, fun q => ⟨q, e⟩⟩
      simp [this]
  · rcases List.mem_or_eq_of_mem_set hm with q | q
    · exact h.ok r q t ht
    · subst q
      rcases List.mem_append.mp ht with q | q
      · exact h.ok _ (List.getElem_mem _) t q
      · rw [List.mem_singleton] at q
        subst q; exact hs
abbrev mE (count : Nat) (long size : Int) (ll : Bool) (x6 x8 x9 x11 x12 x13 x14 x15 x16 : SV) : En := [.v (.ptr 1), .v (.int (count : Int)), .v (.int long), .v (.int size), .v (.lst (ptrs count)), .v (.bl ll), x6, .un, x8, x9, .un, x11, x12, x13, x14, x15, x16, .un]
def ItOk (t : St3) : Prop := -9 ≤ t.1 ∧ -9 ≤ t.2.1 ∧ 0 ≤ t.2.2 ∧ t.2.2 ≤ 3
theorem pmin_ok (a : Int) : ∃ m, pMin2 (.int a) (.int 9) = some (.int m) ∧ m ≤ 9 ∧ (-9 ≤ a → -9 ≤ m) := by
  simp only [pMin2]
  by_cases h : (9 : Int) < a
  · exact ⟨9, by simp [h], by omega, by omega⟩
  · exact ⟨a, by simp [h], by omega, fun h => h⟩
theorem left_ne (count : Nat) (long size : Int) (ll : Bool) (x6 x9 x11 x12 x13 x14 x15 x16 : SV) (L : List Nat) (S : Sto) : eP2 pNeK (pN 8) (pA (eLst (esNil))) (mE count long size ll x6 (.own (.lst (L.map eK))) x9 x11 x12 x13 x14 x15 x16) S = .ok (.bl (!L.isEmpty)) S :=
  p2_ok (pO_ok rfl) (pA_ok (lstS aN)) (ne_nil L)
/-- one is let in -/
theorem turn_ok {count beat : Nat} {long size : Int} {ll : Bool} {x6 x9 x11 x12 x16 : SV} (n16 : nlk x16) (t : St3) (ht : ItOk t) {L : List Nat} {rows : List (List St3)} {S : Sto} (hT : TownR (cells rows) S) (hL : Lf count beat L rows) (c1 : count ≤ 6) (hb : beat ≤ 100) :
    StI (sSeq (sIf (eP2 pNeK (pN 8) (pA (eLst (esNil)))) (sSeq (sPop 16 8 (eIf (eVar 5) (eC (.int 0)) (eCall f_law_draw (esCons (eVar 0) (esCons (eP1 pLen (pN 8)) (esNil)))))) (sSeq (sAppC (eP2 pIdx (pN 4) (pN 16)) (eTup (esCons (eP2 pMin2 (pN 13) (pA (eC (.int 9)))) (esCons (eP2 pMin2 (pN 14) (pA (eC (.int 9)))) (esCons (eIf (eP2 pGt (pA (eCall f_law_draw (esCons (eVar 0) (esCons (eC (.int 9)) (esNil))))) (pA (eC (.int 0)))) (eVar 15) (eCall f_law_draw (esCons (eVar 0) (esCons (eC (.int 4)) (esNil))))) (esNil)))))) (sNil))) (sNil)) (sNil))
      (mE count long size ll x6 (.own (.lst (L.map eK))) x9 x11 x12 (.v (.int t.1)) (.v (.int t.2.1)) (.v (.int t.2.2)) x16) S
      fun env S' => ∃ (L' : List Nat) (rows' : List (List St3)) (y16 : SV), env = mE count long size ll x6 (.own (.lst (L'.map eK))) x9 x11 x12 (.v (.int t.1)) (.v (.int t.2.1)) (.v (.int t.2.2)) y16 ∧ nlk y16 ∧ TownR (cells rows') S' ∧ Lf count beat L' rows' ∧ (L = [] → L' = []) ∧ (L ≠ [] → L'.length < L.length) := by
  refine siNxN (siIfS (left_ne ..) ?_)
  cases hLe : L with
  | nil => exact siNil (siNil ⟨[], rows, x16, rfl, n16, hT, hLe ▸ hL, fun _ => rfl, fun h => absurd rfl h⟩)
  | cons a0 L0 =>
    rw [← hLe]
    have lpos : 0 < L.length := by rw [hLe]; simp
    have llen : L.length ≤ count := by
      have := List.Nodup.length_le_of_subset hL.nd (l₂ := List.range count) fun a ha => List.mem_range.mpr (hL.lt a ha)
      simpa using this
    -- the place that is taken
    have hk : EvI (eIf (eVar 5) (eC (.int 0)) (eCall f_law_draw (esCons (eVar 0) (esCons (eP1 pLen (pN 8)) (esNil))))) (mE count long size ll x6 (.own (.lst (L.map eK))) x9 x11 x12 (.v (.int t.1)) (.v (.int t.2.1)) (.v (.int t.2.2)) x16) S fun v S' => ∃ j : Int, v = .int j ∧ 0 ≤ j ∧ j < L.length ∧ TownR (cells rows) S' := by
      refine eiIf (eiP (eV_ok (x := .bl ll)) ⟨ll, rfl, ?_⟩)
      cases ll with
      | true => exact (if_pos rfl).mpr (eiP eC_ok ⟨0, rfl, by omega, by omega, hT⟩)
      | false => exact (if_neg Bool.false_ne_true).mpr (ei_draw (n := 0) hT rfl (p1_ok (pO_ok rfl) (show pLen (.lst (L.map eK)) = some (.int L.length) by simp [pLen])) (by omega) (by omega) fun r S' hT r0 r1 => ⟨r, rfl, r0, r1, hT⟩)
    rw [show (!L.isEmpty) = true by rw [hLe]; rfl]
    refine (if_pos rfl).mpr (siNxN (siPop rfl (by decide) ?_))
    obtain ⟨v, S1, e1, j, rfl, j0, j1, hT1⟩ := hk
    have hj : j.toNat < L.length := by omega
    have hLj : L[j.toNat]! = L[j.toNat] := getElem!_pos L _ hj
    have hlt : L[j.toNat] < count := hL.lt _ (List.getElem_mem hj)
    have hrl : L[j.toNat] < rows.length := by rw [hL.rl]; exact hlt
    refine ⟨_, S1, e1, _, _, mE count long size ll x6 (.own (.lst ((L.eraseIdx j.toNat).map eK))) x9 x11 x12 (.v (.int t.1)) (.v (.int t.2.1)) (.v (.int t.2.2)) (.v (eK L[j.toNat])), pop_at L j0 j1 (by omega), ?_, ?_⟩
    · rw [hLj]
      exact put_nlk rfl n16
    · obtain ⟨m1, p1, q1, w1⟩ := pmin_ok t.1
      obtain ⟨m2, p2, q2, w2⟩ := pmin_ok t.2.1
      have ix : pIdx (.lst (ptrs count)) (eK L[j.toNat]) = some (.ptr (2 + L[j.toNat])) := by
        have := idx_l (List.range count) (fun i => PV.ptr (2 + i)) (i := 0 + (L[j.toNat] : Int)) (by omega) (by simp; omega)
        rw [show (0 + (L[j.toNat] : Int)).toNat = L[j.toNat] by omega, getElem!_pos (List.range count) _ (by simpa using hlt), List.getElem_range] at this
        exact this
      have fin : ∀ (w : Int) (S3 : Sto), TownR (cells rows) S3 → 0 ≤ w → w ≤ 3 → ∃ (ys : List PV), S3[2 + L[j.toNat]]? = some (.lst ys) ∧ ys.length ≤ 1000000 ∧ StI sNil (mE count long size ll x6 (.own (.lst ((L.eraseIdx j.toNat).map eK))) x9 x11 x12 (.v (.int t.1)) (.v (.int t.2.1)) (.v (.int t.2.2)) (.v (eK L[j.toNat]))) (S3.set (2 + L[j.toNat]) (.lst (ys ++ [.tup [.int m1, .int m2, .int w]]))) fun env S' => StI sNil env S' fun env S' => ∃ (L' : List Nat) (rows' : List (List St3)) (y16 : SV), env = mE count long size ll x6 (.own (.lst (L'.map eK))) x9 x11 x12 (.v (.int t.1)) (.v (.int t.2.1)) (.v (.int t.2.2)) y16 ∧ nlk y16 ∧ TownR (cells rows') S' ∧ Lf count beat L' rows' ∧ (L = [] → L' = []) ∧ (L ≠ [] → L'.length < L.length) := fun w S3 hT3 w0 w3 => by
        refine ⟨rows[L[j.toNat]].map eS, cell_at hT3 hrl, ?_, siNil (siNil ⟨L.eraseIdx j.toNat, rows.set L[j.toNat] (rows[L[j.toNat]] ++ [(m1, m2, w)]), .v (eK L[j.toNat]), rfl, nlk_v _, ?_, hL.step hj hrl ?_, fun h => (by rw [h] at lpos; simp at lpos), fun _ => (by rw [List.length_eraseIdx_of_lt hj]; omega)⟩)⟩
        · have := hL.ln L[j.toNat] _ (List.getElem?_eq_getElem hrl)
          rw [List.length_map, this]
          split <;> omega
        · have := cell_set hT3 L[j.toNat] (rows[L[j.toNat]] ++ [(m1, m2, w)])
          rw [List.map_append] at this
          exact this
        · exact ⟨w1 ht.1, q1, w2 ht.2.1, q2, w0, w3⟩
      refine siNxN (siAppC (p2_ok pN_ok pN_ok ix) (cell_at hT1 hrl) (eiT (elC (eiP (p2_ok pN_ok (pA_ok eC_ok) p1) (elC (eiP (p2_ok pN_ok (pA_ok eC_ok) p2) (elC (eiIf (ei2l fxC (ei_draw (n := 0) hT1 rfl eC_ok (by decide) (by decide) fun r S2 hT2 r0 r1 => ⟨rfl, _, rfl, decide (0 < r), rfl, ?_⟩))))))))))
      by_cases hr : 0 < r
      · rw [if_pos (by simpa using hr)]
        obtain ⟨ys, f1, f2, f3⟩ := fin t.2.2 S2 hT2 ht.2.2.1 ht.2.2.2
        exact eiP eV_ok (elN ⟨by simp, ys, f1, f2, f3⟩)
      · rw [if_neg (by simpa using hr)]
        refine ei_draw (n := 0) hT2 rfl eC_ok (by decide) (by decide) fun r2 S3 hT3 r20 r21 => ?_
        obtain ⟨ys, f1, f2, f3⟩ := fin r2 S3 hT3 r20 (by omega)
        exact elN ⟨by simp, ys, f1, f2, f3⟩
end M01

set_option maxRecDepth 100000
set_option maxHeartbeats 1000000
namespace M01
open PySem Hw Pg
abbrev itemsX : Ex := eLst (esCons (eTup (esCons (eVar 11) (esCons (eVar 12) (esCons (eC (.int 0)) (esNil))))) (esCons (eTup (esCons (eP2 pAdd (pN 11) (pA (eC (.int 1)))) (esCons (eVar 12) (esCons (eC (.int 2)) (esNil))))) (esCons (eTup (esCons (eVar 11) (esCons (eP2 pAdd (pN 12) (pA (eC (.int 1)))) (esCons (eC (.int 3)) (esNil))))) (esNil))))
abbrev pickX : Ex := eCall f_law_pick (esCons (eVar 0) (esCons (eIf (eVar 5) (eLst (esCons (eC (.int 1)) (esCons (eC (.int 2)) (esCons (eC (.int 1)) (esCons (eC (.int 2)) (esCons (eC (.int 2)) (esCons (eC (.int 1)) (esNil)))))))) (eLst (esCons (eC (.int 2)) (esCons (eC (.int 2)) (esCons (eC (.int 2)) (esCons (eC (.int 2)) (esCons (eC (.int 1)) (esCons (eC (.int 3)) (esNil))))))))) (esNil)))
theorem pick_x {count : Nat} {long size : Int} {ll : Bool} {x6 x8 x9 x11 x12 x13 x14 x15 x16 : SV} {rest S : Sto} (hT : TownR rest S) : EvI pickX (mE count long size ll x6 x8 x9 x11 x12 x13 x14 x15 x16) S fun v S' => (v = .int 1 ∨ v = .int 2 ∨ v = .int 3) ∧ TownR rest S' := by
  have go : ∀ xs : List PV, (∀ x ∈ xs, x = .int 1 ∨ x = .int 2 ∨ x = .int 3) → xs ≠ [] → xs.length < 1000 → ∃ v S', f_law_pick [.ptr 1, .lst xs] S = .ok v S' ∧ (v = .int 1 ∨ v = .int 2 ∨ v = .int 3) ∧ TownR rest S' := fun xs h1 h2 h3 => by
    obtain ⟨x, S', e, hx, hT'⟩ := pick_ok hT xs h2 h3 fun x hx => by rcases h1 x hx with rfl | rfl | rfl <;> rfl
    exact ⟨x, S', e, h1 x hx, hT'⟩
  refine eiCall (elC (eiP eV_ok (elC (eiIf (eiP (eV_ok (x := .bl ll)) ⟨ll, rfl, ?_⟩)))))
  cases ll with
  | true => exact (if_pos rfl).mpr (eiP (lstS (aC eC_ok (aC eC_ok (aC eC_ok (aC eC_ok (aC eC_ok (aC eC_ok aN))))))) (elN (go _ (by simp) (by simp) (by simp))))
  | false => exact (if_neg Bool.false_ne_true).mpr (eiP (lstS (aC eC_ok (aC eC_ok (aC eC_ok (aC eC_ok (aC eC_ok (aC eC_ok aN))))))) (elN (go _ (by simp) (by simp) (by simp))))
theorem itOk {a b c : Int} (h0 : -9 ≤ a) (h1 : -9 ≤ b) (h2 : 0 ≤ c) (h3 : c ≤ 3) : ItOk (a, b, c) := ⟨h0, h1, h2, h3⟩
theorem items_ok {count : Nat} {long size : Int} {ll : Bool} {x6 x8 x9 x13 x14 x15 x16 : SV} {rest S : Sto} (hT : TownR rest S) {x y : Int} (hx : -8 ≤ x) (hy : 0 ≤ y) : ∃ (items : List St3) (S' : Sto), iP (pA (eCut (pA itemsX) none (some pickX))) (mE count long size ll x6 x8 x9 (.v (.int x)) (.v (.int y)) x13 x14 x15 x16) S = .ok (items.map eS) S' ∧ TownR rest S' ∧ items ≠ [] ∧ ∀ t ∈ items, ItOk t := by
  have e1 : ∀ S, itemsX (mE count long size ll x6 x8 x9 (.v (.int x)) (.v (.int y)) x13 x14 x15 x16) S = .ok (.lst ([(x, y, 0), (x + 1, y, 2), (x, y + 1, 3)].map eS)) S := fun S =>
    lstS (aC (tupS (aC eV_ok (aC eV_ok (aC eC_ok aN)))) (aC (tupS (aC (p2_ok pN_ok (pA_ok eC_ok) rfl) (aC eV_ok (aC eC_ok aN)))) (aC (tupS (aC eV_ok (aC (p2_ok pN_ok (pA_ok eC_ok) rfl) (aC eC_ok aN)))) aN)))
  obtain ⟨v, S1, e2, hv, hT1⟩ := pick_x (count := count) (long := long) (size := size) (ll := ll) (x6 := x6) (x8 := x8) (x9 := x9) (x11 := .v (.int x)) (x12 := .v (.int y)) (x13 := x13) (x14 := x14) (x15 := x15) (x16 := x16) hT
  have go : ∀ (n : Int) (items : List St3), v = .int n → cutP ([(x, y, 0), (x + 1, y, 2), (x, y + 1, 3)].map eS) none (some n) = items.map eS → iP (pA (eCut (pA itemsX) none (some pickX))) (mE count long size ll x6 x8 x9 (.v (.int x)) (.v (.int y)) x13 x14 x15 x16) S = .ok (items.map eS) S1 := fun n items hn hc => by
    subst hn
    have : eCut (pA itemsX) none (some pickX) (mE count long size ll x6 x8 x9 (.v (.int x)) (.v (.int y)) x13 x14 x15 x16) S = .ok (.lst (items.map eS)) S1 := by
      simp only [eCut, pA, e1, R.bind, eOpt, e2, plOf, res, pCut, hc, R.opt]
    simp only [iP, pA, this, R.bind, plOf, itemsOf, R.opt]
  rcases hv with rfl | rfl | rfl
  · refine ⟨[(x, y, 0)], S1, go 1 _ rfl rfl, hT1, by simp, fun t ht => ?_⟩
    simp at ht
    subst ht
    exact itOk (by omega) (by omega) (by decide) (by decide)
  · refine ⟨[(x, y, 0), (x + 1, y, 2)], S1, go 2 _ rfl rfl, hT1, by simp, fun t ht => ?_⟩
    simp at ht
    rcases ht with rfl | rfl
    · exact itOk (by omega) (by omega) (by decide) (by decide)
    · exact itOk (by omega) (by omega) (by decide) (by decide)
  · refine ⟨[(x, y, 0), (x + 1, y, 2), (x, y + 1, 3)], S1, go 3 _ rfl rfl, hT1, by simp, fun t ht => ?_⟩
    simp at ht
    rcases ht with rfl | rfl | rfl
    · exact itOk (by omega) (by omega) (by decide) (by decide)
    · exact itOk (by omega) (by omega) (by decide) (by decide)
    · exact itOk (by omega) (by omega) (by decide) (by decide)
abbrev turnX : Sm := sSeq (sIf (eP2 pNeK (pN 8) (pA (eLst (esNil)))) (sSeq (sPop 16 8 (eIf (eVar 5) (eC (.int 0)) (eCall f_law_draw (esCons (eVar 0) (esCons (eP1 pLen (pN 8)) (esNil)))))) (sSeq (sAppC (eP2 pIdx (pN 4) (pN 16)) (eTup (esCons (eP2 pMin2 (pN 13) (pA (eC (.int 9)))) (esCons (eP2 pMin2 (pN 14) (pA (eC (.int 9)))) (esCons (eIf (eP2 pGt (pA (eCall f_law_draw (esCons (eVar 0) (esCons (eC (.int 9)) (esNil))))) (pA (eC (.int 0)))) (eVar 15) (eCall f_law_draw (esCons (eVar 0) (esCons (eC (.int 4)) (esNil))))) (esNil)))))) (sNil))) (sNil)) (sNil)
theorem turns_ok {count beat : Nat} {long size : Int} {ll : Bool} {x6 x9 x13 x14 x15 x16 : SV} (n13 : nlk x13) (n14 : nlk x14) (n15 : nlk x15) (n16 : nlk x16) {L : List Nat} {rows : List (List St3)} {S : Sto} (hT : TownR (cells rows) S) (hL : Lf count beat L rows) (c1 : count ≤ 6) (hb : beat ≤ 100) {x y : Int} (hx : -8 ≤ x) (hy : 0 ≤ y) (hne : L ≠ []) :
    StI (sFor (iP (pA (eCut (pA itemsX) none (some pickX)))) (tgT [13, 14, 15]) turnX) (mE count long size ll x6 (.own (.lst (L.map eK))) x9 (.v (.int x)) (.v (.int y)) x13 x14 x15 x16) S
      fun env S' => ∃ (L' : List Nat) (rows' : List (List St3)) (y13 y14 y15 y16 : SV), env = mE count long size ll x6 (.own (.lst (L'.map eK))) x9 (.v (.int x)) (.v (.int y)) y13 y14 y15 y16 ∧ nlk y13 ∧ nlk y14 ∧ nlk y15 ∧ nlk y16 ∧ TownR (cells rows') S' ∧ Lf count beat L' rows' ∧ L'.length < L.length := by
  obtain ⟨items, S1, e1, hT1, hi, ht⟩ := items_ok (count := count) (long := long) (size := size) (ll := ll) (x6 := x6) (x8 := .own (.lst (L.map eK))) (x9 := x9) (x13 := x13) (x14 := x14) (x15 := x15) (x16 := x16) hT hx hy
  have := siFor (g := tgT [13, 14, 15]) (body := turnX) items eS (fun done env S' => ∃ (L' : List Nat) (rows' : List (List St3)) (y13 y14 y15 y16 : SV), env = mE count long size ll x6 (.own (.lst (L'.map eK))) x9 (.v (.int x)) (.v (.int y)) y13 y14 y15 y16 ∧ nlk y13 ∧ nlk y14 ∧ nlk y15 ∧ nlk y16 ∧ TownR (cells rows') S' ∧ Lf count beat L' rows' ∧ (done = [] → L' = L) ∧ (done ≠ [] → L'.length < L.length)) e1
    ⟨L, rows, x13, x14, x15, x16, rfl, n13, n14, n15, n16, hT1, hL, fun _ => rfl, fun h => absurd rfl h⟩ ?_
  · obtain ⟨env, S2, h1, L', rows', y13, y14, y15, y16, h2, h3, h4, h5, h6, h7, h8, _, h9⟩ := this
    exact ⟨env, S2, h1, L', rows', y13, y14, y15, y16, h2, h3, h4, h5, h6, h7, h8, h9 hi⟩
  · rintro done t rest hd env S2 ⟨L', rows', y13, y14, y15, y16, rfl, h3, h4, h5, h6, h7, h8, h9, h10⟩
    have htm : t ∈ items := by rw [hd]; simp
    refine ⟨mE count long size ll x6 (.own (.lst (L'.map eK))) x9 (.v (.int x)) (.v (.int y)) (.v (.int t.1)) (.v (.int t.2.1)) (.v (.int t.2.2)) y16, ?_, ?_⟩
    · cases y13 <;> cases y14 <;> cases y15 <;> first | rfl | exact absurd rfl (h3 _) | exact absurd rfl (h4 _) | exact absurd rfl (h5 _)
    · obtain ⟨e, S3, g1, L2, rows2, z16, rfl, g2, g3, g4, g5, g6⟩ := turn_ok (x11 := .v (.int x)) (x12 := .v (.int y)) h6 t (ht t htm) h7 h8 c1 hb
      refine ⟨_, S3, g1, L2, rows2, _, _, _, z16, rfl, nlk_v _, nlk_v _, nlk_v _, g2, g3, g4, fun h => by simp at h, fun _ => ?_⟩
      by_cases hd0 : done = []
      · rw [h9 hd0] at g6
        exact g6 hne
      · have := h10 hd0
        by_cases hl : L' = []
        · rw [g5 hl]
          exact List.length_pos_iff.mpr hne
        · have := g6 hl
          omega
theorem pop0 (p : Int) (xs : List PV) : popP (.lst (.int p :: xs)) (.int 0) = some (.lst xs, .int p) := by
  have e : seqIndex? 0 ((PV.int p :: xs).length) = some 0 := by
    unfold seqIndex?
    have : (0 : Int) < ((PV.int p :: xs).length : Int) := by simp
    simp [this]
  unfold popP
  dsimp only
  rw [e]
  rfl
end M01

set_option maxRecDepth 100000
set_option maxHeartbeats 1000000
namespace M01
open PySem Hw Pg
abbrev spotX : Sm := sPopIf 11 9 (eP2 pGt (pA (eP1 pLen (pN 9))) (pA (eC (.int 0)))) (eC (.int 0)) (eC (.int 0))
abbrev whileX : Sm := sSeq spotX (sSeq (sPut (tgN 12) (eIf (eP2 pGt (pA (eP1 pLen (pN 9))) (pA (eC (.int 0)))) (eP2 pMul (pA (eC (.int 5))) (pA (eP2 pMod (pA (eP1 pLen (pN 9))) (pA (eC (.int 2)))))) (eC (.int 9)))) (sSeq (sFor (iP (pA (eCut (pA itemsX) none (some pickX)))) (tgT [13, 14, 15]) turnX) (sNil)))
/-- all are let in -/
theorem while_ok {count beat : Nat} {long size : Int} {ll : Bool} {x6 : SV} (c1 : count ≤ 6) (hb : beat ≤ 100) {L : List Nat} {P : List Int} {rows : List (List St3)} {S : Sto} {x11 x12 x13 x14 x15 x16 : SV} (n11 : nlk x11) (n12 : nlk x12) (n13 : nlk x13) (n14 : nlk x14) (n15 : nlk x15) (n16 : nlk x16) (hT : TownR (cells rows) S) (hL : Lf count beat L rows) (hl : L.length ≤ 6) (hP : ∀ p ∈ P, -8 ≤ p) :
    ∃ env S', whileLoop (eP2 pNeK (pN 8) (pA (eLst (esNil)))) whileX fuel (mE count long size ll x6 (.own (.lst (L.map eK))) (.own (.lst (P.map .int))) x11 x12 x13 x14 x15 x16) S = .nx env S' ∧
      ∃ (rows' : List (List St3)) (x9 y11 y12 y13 y14 y15 y16 : SV), env = mE count long size ll x6 (.own (.lst [])) x9 y11 y12 y13 y14 y15 y16 ∧ nlk x9 ∧ nlk y11 ∧ nlk y12 ∧ nlk y13 ∧ nlk y14 ∧ nlk y15 ∧ nlk y16 ∧ TownR (cells rows') S' ∧ Lf count beat [] rows' := by
  refine siWhile (c := eP2 pNeK (pN 8) (pA (eLst (esNil)))) (sa := whileX) (fun m env S => ∃ (L : List Nat) (P : List Int) (rows : List (List St3)) (x11 x12 x13 x14 x15 x16 : SV), m = L.length ∧ env = mE count long size ll x6 (.own (.lst (L.map eK))) (.own (.lst (P.map .int))) x11 x12 x13 x14 x15 x16 ∧ nlk x11 ∧ nlk x12 ∧ nlk x13 ∧ nlk x14 ∧ nlk x15 ∧ nlk x16 ∧ TownR (cells rows) S ∧ Lf count beat L rows ∧ ∀ p ∈ P, -8 ≤ p) ?_ fuel L.length _ S (by unfold fuel; omega) ⟨L, P, rows, x11, x12, x13, x14, x15, x16, rfl, rfl, n11, n12, n13, n14, n15, n16, hT, hL, hP⟩
  rintro m env S ⟨L, P, rows, x11, x12, x13, x14, x15, x16, rfl, rfl, n11, n12, n13, n14, n15, n16, hT, hL, hP⟩
  refine ⟨!L.isEmpty, left_ne .., ?_⟩
  by_cases hne : L = []
  · subst hne
    exact (if_neg (by simp)).mpr ⟨rows, _, x11, x12, x13, x14, x15, x16, rfl, fun _ => by simp, n11, n12, n13, n14, n15, n16, hT, hL⟩
  · have : (!L.isEmpty) = true := by cases L <;> first | exact absurd rfl hne | rfl
    refine (if_pos this).mpr (siNxN ?_)
    -- the spot
    have spot : ∃ (x : Int) (P' : List Int), spotX (mE count long size ll x6 (.own (.lst (L.map eK))) (.own (.lst (P.map .int))) x11 x12 x13 x14 x15 x16) S = .nx (mE count long size ll x6 (.own (.lst (L.map eK))) (.own (.lst (P'.map .int))) (.v (.int x)) x12 x13 x14 x15 x16) S ∧ -8 ≤ x ∧ ∀ p ∈ P', -8 ≤ p := by
      have hc : eP2 pGt (pA (eP1 pLen (pN 9))) (pA (eC (.int 0))) (mE count long size ll x6 (.own (.lst (L.map eK))) (.own (.lst (P.map .int))) x11 x12 x13 x14 x15 x16) S = .ok (.bl (decide (0 < (P.length : Int)))) S := p2_ok (pA_ok (p1_ok (pO_ok rfl) (show pLen (.lst (P.map .int)) = some (.int P.length) by simp [pLen]))) (pA_ok eC_ok) rfl
      cases P with
      | nil =>
        refine ⟨0, [], ?_, by decide, by simp⟩
        have hs : setV 11 (.v (.int 0)) (mE count long size ll x6 (.own (.lst (L.map eK))) (.own (.lst [])) x11 x12 x13 x14 x15 x16) = some (mE count long size ll x6 (.own (.lst (L.map eK))) (.own (.lst [])) (.v (.int 0)) x12 x13 x14 x15 x16) := put_nlk rfl n11
        simp only [spotX, sPopIf, sIf, hc]
        simp [sPut, eC, tgN, hs]
      | cons p P =>
        refine ⟨p, P, ?_, hP p (by simp), fun q hq => hP q (by simp [hq])⟩
        have hs : setV 11 (.v (.int p)) ((mE count long size ll x6 (.own (.lst (L.map eK))) (.own (.lst ((p :: P).map .int))) x11 x12 x13 x14 x15 x16).set 9 (.own (.lst (P.map .int)))) = some (mE count long size ll x6 (.own (.lst (L.map eK))) (.own (.lst (P.map .int))) (.v (.int p)) x12 x13 x14 x15 x16) := put_nlk rfl n11
        have hd : decide (0 < (((p :: P).length : Nat) : Int)) = true := decide_eq_true (by simp)
        rw [hd] at hc
        simp only [spotX, sPopIf, sIf, hc]
        have := siPop (t := 11) (i := 9) (k := eC (.int 0)) (env := mE count long size ll x6 (.own (.lst (L.map eK))) (.own (.lst ((p :: P).map .int))) x11 x12 x13 x14 x15 x16) (S := S) (xs := (p :: P).map .int) (QE := fun e S' => e = mE count long size ll x6 (.own (.lst (L.map eK))) (.own (.lst (P.map .int))) (.v (.int p)) x12 x13 x14 x15 x16 ∧ S' = S) rfl (by decide) (eiP eC_ok ⟨_, _, _, pop0 p (P.map .int), hs, rfl, rfl⟩)
        obtain ⟨e, S2, g1, rfl, rfl⟩ := this
        exact g1
    obtain ⟨x, P', e1, hx, hP'⟩ := spot
    refine ⟨_, S, e1, siNxN ?_⟩
    -- y
    have hy : ∃ y : Int, eIf (eP2 pGt (pA (eP1 pLen (pN 9))) (pA (eC (.int 0)))) (eP2 pMul (pA (eC (.int 5))) (pA (eP2 pMod (pA (eP1 pLen (pN 9))) (pA (eC (.int 2)))))) (eC (.int 9)) (mE count long size ll x6 (.own (.lst (L.map eK))) (.own (.lst (P'.map .int))) (.v (.int x)) x12 x13 x14 x15 x16) S = .ok (.int y) S ∧ 0 ≤ y := by
      have hn : eP1 pLen (pN 9) (mE count long size ll x6 (.own (.lst (L.map eK))) (.own (.lst (P'.map .int))) (.v (.int x)) x12 x13 x14 x15 x16) S = .ok (.int P'.length) S := p1_ok (pO_ok rfl) (show pLen (.lst (P'.map .int)) = some (.int P'.length) by simp [pLen])
      have hc : eP2 pGt (pA (eP1 pLen (pN 9))) (pA (eC (.int 0))) (mE count long size ll x6 (.own (.lst (L.map eK))) (.own (.lst (P'.map .int))) (.v (.int x)) x12 x13 x14 x15 x16) S = .ok (.bl (decide (0 < (P'.length : Int)))) S := p2_ok (pA_ok hn) (pA_ok eC_ok) rfl
      have hm : eP2 pMul (pA (eC (.int 5))) (pA (eP2 pMod (pA (eP1 pLen (pN 9))) (pA (eC (.int 2))))) (mE count long size ll x6 (.own (.lst (L.map eK))) (.own (.lst (P'.map .int))) (.v (.int x)) x12 x13 x14 x15 x16) S = .ok (.int (5 * ((P'.length : Int) % 2))) S := by
        refine p2_ok (pA_ok eC_ok) (pA_ok (p2_ok (pA_ok hn) (pA_ok eC_ok) (pmod_ok (by decide)))) ?_
        unfold pMul
        exact if_pos (by unfold cmulB; rw [Bool.or_eq_true, Bool.and_eq_true]; exact .inl ⟨rfl, rfl⟩)
      unfold eIf
      rw [hc]
      by_cases hp : 0 < (P'.length : Int)
      · rw [decide_eq_true hp]
        exact ⟨_, hm, by omega⟩
      · rw [decide_eq_false hp]
        exact ⟨9, rfl, by decide⟩
    obtain ⟨y, e2, hy⟩ := hy
    have hs : tgN 12 (.int y) (mE count long size ll x6 (.own (.lst (L.map eK))) (.own (.lst (P'.map .int))) (.v (.int x)) x12 x13 x14 x15 x16) = some (mE count long size ll x6 (.own (.lst (L.map eK))) (.own (.lst (P'.map .int))) (.v (.int x)) (.v (.int y)) x13 x14 x15 x16) := put_nlk rfl n12
    refine ⟨mE count long size ll x6 (.own (.lst (L.map eK))) (.own (.lst (P'.map .int))) (.v (.int x)) (.v (.int y)) x13 x14 x15 x16, S, by simp [sPut, e2, hs], siNxN ?_⟩
    obtain ⟨e, S3, g1, L2, rows2, y13, y14, y15, y16, rfl, g2, g3, g4, g5, g6, g7, g8⟩ := turns_ok (long := long) (size := size) (ll := ll) (x6 := x6) (x9 := .own (.lst (P'.map .int))) n13 n14 n15 n16 hT hL c1 hb hx hy hne
    exact ⟨_, S3, g1, siNil ⟨L2.length, g8, L2, P', rows2, _, _, y13, y14, y15, y16, rfl, rfl, nlk_v _, nlk_v _, g2, g3, g4, g5, g6, g7, hP'⟩⟩
end M01

set_option maxRecDepth 100000
set_option maxHeartbeats 1000000
namespace M01
open PySem Hw Pg
theorem lr_okI {d : Ex} {env : En} {S : Sto} {i : Int} (h : d env S = .ok (.int i) S) (h0 : 0 ≤ i) (h1 : i ≤ 1000) : eLR d env S = .ok (.lst ((List.range i.toNat).map eK)) S := by
  have h3 : (decide (0 ≤ i) && decide (i ≤ 10000000)) = true := by
    rw [Bool.and_eq_true]
    exact ⟨decide_eq_true h0, decide_eq_true (by omega)⟩
  unfold eLR
  rw [h]
  simp only [R.bind]
  rw [if_pos h3]
  rfl
theorem lr_ok {d : Ex} {env : En} {S : Sto} {j : Nat} (h : d env S = .ok (.int (j : Int)) S) (h1 : j ≤ 1000) : eLR d env S = .ok (.lst ((List.range j).map eK)) S := by
  have e := lr_okI h (Int.natCast_nonneg j) (Int.ofNat_le.mpr h1)
  rw [Int.toNat_natCast] at e
  exact e
abbrev spotsX : Ex := eLst (esCons (eP2 pSub (pA (eC (.int 0))) (pA (eC (.int 8)))) (esCons (eP2 pSub (pA (eC (.int 0))) (pA (eC (.int 2)))) (esCons (eC (.int 4)) (esCons (eP2 pSub (pA (eP2 pAdd (pA (eP2 pSub (pA (eC (.int 0))) (pA (eC (.int 8))))) (pA (eP2 pMul (pA (eC (.int 6))) (pA (eC (.int 3))))))) (pA (eC (.int 1)))) (esNil)))))
theorem spots_ok (env : En) (S : Sto) : spotsX env S = .ok (.lst ([-8, -2, 4, 9].map PV.int)) S :=
  lstS (aC (p2_ok (pA_ok eC_ok) (pA_ok eC_ok) rfl) (aC (p2_ok (pA_ok eC_ok) (pA_ok eC_ok) rfl) (aC eC_ok (aC (p2_ok (pA_ok (p2_ok (pA_ok (p2_ok (pA_ok eC_ok) (pA_ok eC_ok) rfl)) (pA_ok (p2_ok (pA_ok eC_ok) (pA_ok eC_ok) (show pMul (.int 6) (.int 3) = some (.int 18) by simp [pMul, cmulB]))) rfl)) (pA_ok eC_ok) rfl) aN))))
abbrev beatX : Sm := sSeq (sOwn 8 (eLR (eVar 1))) (sSeq (sOwn 9 spotsX) (sSeq (sWhile (eP2 pNeK (pN 8) (pA (eLst (esNil)))) whileX) (sNil)))
structure Nl (x8 x9 x11 x12 x13 x14 x15 x16 : SV) : Prop where
  a : nlk x8
  b : nlk x9
  c : nlk x11
  d : nlk x12
  e : nlk x13
  f : nlk x14
  g : nlk x15
  h : nlk x16
theorem beats_ok {count : Nat} {long : Int} {size : Nat} {ll : Bool} (c1 : count ≤ 6) (hs : size ≤ 6) {rows : List (List St3)} {S : Sto} (hT : TownR (cells rows) S) (hr : rows.length = count) (h0 : ∀ r ∈ rows, r = []) :
    StI (sFor (iR1 (eVar 3)) (tgN 6) beatX) (mE count long (size : Int) ll .un .un .un .un .un .un .un .un .un) S
      fun env S' => ∃ (rows' : List (List St3)) (x6 x8 x9 y11 y12 y13 y14 y15 y16 : SV), env = mE count long (size : Int) ll x6 x8 x9 y11 y12 y13 y14 y15 y16 ∧ TownR (cells rows') S' ∧ rows'.length = count ∧ ∀ r ∈ rows', r.length = size ∧ ∀ s ∈ r, StOk s := by
  have := siFor (it := iR1 (eVar 3)) (g := tgN 6) (body := beatX) (env := mE count long (size : Int) ll .un .un .un .un .un .un .un .un .un) (S := S) (List.range size) eK
    (fun done env S' => ∃ (rows' : List (List St3)) (x6 x8 x9 y11 y12 y13 y14 y15 y16 : SV), env = mE count long (size : Int) ll x6 x8 x9 y11 y12 y13 y14 y15 y16 ∧ nlk x6 ∧ Nl x8 x9 y11 y12 y13 y14 y15 y16 ∧ TownR (cells rows') S' ∧ rows'.length = count ∧ ∀ r ∈ rows', r.length = done.length ∧ ∀ s ∈ r, StOk s) (r1_imp eV_ok (by omega))
    ⟨rows, .un, .un, .un, .un, .un, .un, .un, .un, .un, rfl, nlk_un, ⟨nlk_un, nlk_un, nlk_un, nlk_un, nlk_un, nlk_un, nlk_un, nlk_un⟩, hT, hr, fun r hm => by rw [h0 r hm]; exact ⟨rfl, by simp⟩⟩ ?_
  · obtain ⟨env, S2, h1, rows', x6, x8, x9, y11, y12, y13, y14, y15, y16, h2, h3, h4, h5, h6, h7⟩ := this
    rw [List.length_range] at h7
    exact ⟨env, S2, h1, rows', x6, x8, x9, y11, y12, y13, y14, y15, y16, h2, h5, h6, h7⟩
  · rintro done t rest hd env S2 ⟨rows', x6, x8, x9, y11, y12, y13, y14, y15, y16, rfl, n6, nl, h5, h6, h7⟩
    have hlt : done.length < size := by
      have := congrArg List.length hd
      simp at this
      omega
    have lf : Lf count done.length (List.range count) rows' := ⟨List.nodup_range, fun a ha => List.mem_range.mp ha, h6, fun i r hi => by
      have hi' : i < rows'.length := (List.getElem?_eq_some_iff.mp hi).1
      rw [if_pos (List.mem_range.mpr (by omega))]
      exact (h7 r (List.mem_of_getElem? hi)).1, fun r hm => (h7 r hm).2⟩
    refine ⟨mE count long (size : Int) ll (.v (eK t)) x8 x9 y11 y12 y13 y14 y15 y16, put_nlk rfl n6, siOwnN (eiP (lr_ok eV_ok (by omega)) ⟨mE count long (size : Int) ll (.v (eK t)) (.own (.lst ((List.range count).map eK))) x9 y11 y12 y13 y14 y15 y16, put_nlk rfl nl.a, siOwnN (eiP (spots_ok _ _) ⟨mE count long (size : Int) ll (.v (eK t)) (.own (.lst ((List.range count).map eK))) (.own (.lst ([-8, -2, 4, 9].map PV.int))) y11 y12 y13 y14 y15 y16, put_nlk rfl nl.b, siNxN ?_⟩)⟩)⟩
    obtain ⟨e, S3, g1, rows2, z9, z11, z12, z13, z14, z15, z16, rfl, m9, m11, m12, m13, m14, m15, m16, g3, g4⟩ := while_ok (long := long) (size := (size : Int)) (ll := ll) (x6 := .v (eK t)) (P := [-8, -2, 4, 9]) c1 (by omega) nl.c nl.d nl.e nl.f nl.g nl.h h5 lf (by simpa using c1) (by simp)
    refine ⟨_, S3, g1, siNil ⟨rows2, _, _, z9, z11, z12, z13, z14, z15, z16, rfl, nlk_v _, ⟨fun _ => by simp, m9, m11, m12, m13, m14, m15, m16⟩, g3, g4.rl, fun r hm => ⟨?_, g4.ok r hm⟩⟩⟩
    obtain ⟨i, hi, rfl⟩ := List.getElem_of_mem hm
    have := g4.ln i _ (List.getElem?_eq_getElem hi)
    rw [this]
    simp
end M01

set_option maxRecDepth 100000
set_option maxHeartbeats 1000000
namespace M01
open PySem Hw Pg
theorem cells_nil (n : Nat) : List.replicate n (PV.lst []) = cells (List.replicate n []) := by
  unfold cells
  rw [List.map_replicate]
  rfl
theorem siFz {i : Nat} {xs : List PV} {env : En} {S : Sto} {QE : En → Sto → Prop} (h : env[i]? = some (.own (.lst xs))) (hq : QE (env.set i (.v (.lst xs))) S) : StI (sFz i) env S QE := ⟨_, S, by simp [sFz, h], hq⟩
theorem ptr_rows {rows : List (List St3)} {S : Sto} (hT : TownR (cells rows) S) : (List.range rows.length).map (fun i => eRow (rows[i]!)) = rows.map eRow := by
  apply List.ext_getElem
  · simp
  · intro i h1 h2
    have : i < rows.length := by simpa using h2
    simp [this]
theorem meet_ok {S : Sto} (h : TownR [] S) {count : Nat} (c0 : 2 ≤ count) (c1 : count ≤ 6) {long : Int} (l0 : 1 ≤ long) (l1 : long ≤ 4) :
    RtI d_law_meetings [.v (.ptr 1), .v (.int (count : Int)), .v (.int long), .un, .un, .un, .un, .un, .un, .un, .un, .un, .un, .un, .un, .un, .un, .un] S fun v S' => ∃ reach rows bar, v = eCr reach rows bar ∧ (∃ rest, TownR rest S') ∧ Good reach rows bar ∧ rows.length = count := by
  refine siPut (ei_nat (b := 3) (t := 0) (d := eVar 2) h rfl eV_ok (by omega) (by omega) fun size S1 hT1 m0 m1 => ⟨_, rfl, ?_⟩)
  have hs : size ≤ 6 := by omega
  -- the boxes
  have hbox : eLC (iR1 (eVar 1)) [10] (tgN 10) (eYes) (eBox (eLst esNil)) [.v (.ptr 1), .v (.int (count : Int)), .v (.int long), .v (.int (size : Int)), .un, .un, .un, .un, .un, .un, .un, .un, .un, .un, .un, .un, .un, .un] S1 = .ok (.lst (ptrs count)) (S1 ++ List.replicate count (.lst [])) := by
    have hl : S1.length = 2 := by obtain ⟨_, _, _, rfl⟩ := hT1; rfl
    have b := box_loop [.v (.ptr 1), .v (.int (count : Int)), .v (.int long), .v (.int (size : Int)), .un, .un, .un, .un, .un, .un, .un, .un, .un, .un, .un, .un, .un, .un] ⟨.un, rfl, nlk_un⟩ (List.range count) S1
    rw [hl, List.length_range] at b
    unfold eLC
    rw [r1_imp (eV_ok (x := .int (count : Int))) (by omega)]
    have hw : wipeE [10] [SV.v (.ptr 1), .v (.int (count : Int)), .v (.int long), .v (.int (size : Int)), .un, .un, .un, .un, .un, .un, .un, .un, .un, .un, .un, .un, .un, .un] = some [SV.v (.ptr 1), .v (.int (count : Int)), .v (.int long), .v (.int (size : Int)), .un, .un, .un, .un, .un, .un, .un, .un, .un, .un, .un, .un, .un, .un] := rfl
    simp only [R.bind, hw]
    rw [if_pos (by simp; omega), b]
    rfl
  have hT2 : TownR (cells (List.replicate count [])) (S1 ++ List.replicate count (.lst [])) := by
    rw [cells_nil]
    obtain ⟨N, c, hN, rfl⟩ := hT1
    exact ⟨N, c, hN, rfl⟩
  generalize S1 ++ List.replicate count (.lst []) = S2 at hbox hT2
  refine siOwn ⟨_, S2, hbox, _, rfl, siNx (siFz rfl (siPut ?_))⟩
  refine ei2l fxC (ei_draw (n := 0) (t := 0) hT2 rfl eC_ok (by decide) (by decide) fun r S3 hT3 r0 r1 => ⟨rfl, .bl (decide (0 < r)), rfl, _, rfl, siNx ?_⟩)
  obtain ⟨e, S4, g1, rows, x6, x8, x9, y11, y12, y13, y14, y15, y16, rfl, hT4, g2, g3⟩ := beats_ok (long := long) (ll := decide (0 < r)) c1 hs hT3 (by simp) (by simp)
  refine ⟨_, S4, g1, siPut (ei_some (t := 0) (n := count) (m := 15) hT4 (by omega) eV_ok rfl (fun k => ⟨_, rfl, rfl, fun _ => rfl, rfl⟩) (by decide) (by decide) fun l' S5 hs5 hT5 => ⟨_, rfl, siRet ?_⟩)⟩
  refine eiT (elC (ei2r fxC (ei_draw (n := 0) (t := 0) hT5 rfl eC_ok (by decide) (by decide) fun r2 S6 hT6 r20 r21 => ⟨rfl, .int (1 + r2), rfl, elC (eiP (v := .tup (rows.map eRow)) ?_ (elC (eiP eV_ok (elN ⟨by simp, 1 + r2, rows, l'.map fun k : Nat => 0 + (k : Int), ?_, ⟨_, hT6⟩, good_of (by omega) (by omega) g2 c0 c1 (fun q hq => ⟨by rw [(g3 q hq).1]; omega, by rw [(g3 q hq).1]; omega, (g3 q hq).2⟩) hs5, g2⟩))))⟩)))
  · have q := elc1 (it := iP (pN 4)) (vs := [17]) (g := tgN 17) (e := eP1 pTuple (pN 17)) (env := (mE count long (size : Int) (decide (0 < r)) x6 x8 x9 y11 y12 y13 y14 y15 y16).set 7 (.v (.tup (l'.map eK)))) (env0 := (mE count long (size : Int) (decide (0 < r)) x6 x8 x9 y11 y12 y13 y14 y15 y16).set 7 (.v (.tup (l'.map eK)))) (S := S6) (List.range count) (fun i => .ptr (2 + i)) (fun i => eRow (rows[i]!)) (iP_l rfl) rfl (by simp; omega) fun i hi =>
      ⟨((mE count long (size : Int) (decide (0 < r)) x6 x8 x9 y11 y12 y13 y14 y15 y16).set 7 (.v (.tup (l'.map eK)))).set 17 (.v (.ptr (2 + i))), rfl, by
        have hi : i < rows.length := by rw [g2]; exact List.mem_range.mp hi
        refine p1_ok (u := .lst (rows[i].map eS)) (pC_ok (n := 2 + i) rfl (cell_at hT6 hi)) ?_
        rw [getElem!_pos rows i hi]
        rfl⟩
    have pr := ptr_rows hT6
    rw [g2] at pr
    rw [pr] at q
    exact p1_ok (pA_ok q rfl) rfl
  · rw [eK_int]
    rfl
/-! ### what nobody sees any more -/
theorem pl_map {α : Type} (enc : α → PV) (n : Nat) (h : ∀ a, (enc a).pl n = true) : ∀ l : List α, PV.plL (l.map enc) n = true
  | [] => rfl
  | a :: l => by
    show (PV.pl (enc a) n && PV.plL (l.map enc) n) = true
    rw [h, pl_map enc n h l]; rfl
theorem pl_cr (reach : Int) (rows : List (List St3)) (bar : List Int) (n : Nat) : (eCr reach rows bar).pl n = true := by
  have e1 : PV.plL (rows.map eRow) n = true := pl_map eRow n (fun r => pl_map eS n (fun s => rfl) r) rows
  have e2 : PV.plL (bar.map .int) n = true := pl_map PV.int n (fun s => rfl) bar
  show (PV.pl (.int reach) n && (PV.plL (rows.map eRow) n && (PV.plL (bar.map .int) n && true))) = true
  rw [e1, e2]; rfl
theorem run_cut {n : Nat} {d : Sm} {args : List PV} {S S' rest : Sto} {reach : Int} {rows : List (List St3)} {bar : List Int} (hS : TownR [] S) (h : d (args.map .v ++ List.replicate (n - args.length) .un) S = .rt (eCr reach rows bar) S') (hT : TownR rest S') : ∃ S2, runFn n d args S = .ok (eCr reach rows bar) S2 ∧ TownR [] S2 := by
  have hl : S.length = 2 := by obtain ⟨_, _, _, rfl⟩ := hS; rfl
  obtain ⟨N, c, hN, rfl⟩ := hT
  refine ⟨[.lst (N.map .int), .lst [.ptr 0, .int c]], ?_, N, c, hN, rfl⟩
  unfold runFn
  rw [h, hl]
  have e : PV.plL [.lst (N.map .int), .lst [.ptr 0, .int c]] 2 = true := by
    show (PV.plL (N.map .int) 2 && (PV.plL [.ptr 0, .int c] 2 && true)) = true
    rw [pl_map PV.int 2 (fun s => rfl) N]; rfl
  simp only [truncR]
  have e2 : List.take 2 (PV.lst (N.map .int) :: .lst [.ptr 0, .int c] :: rest) = [.lst (N.map .int), .lst [.ptr 0, .int c]] := rfl
  rw [e2, pl_cr, e]
  rfl
theorem ev_meet {S : Sto} (h : TownR [] S) {count : Nat} (c0 : 2 ≤ count) (c1 : count ≤ 6) {long : Int} (l0 : 1 ≤ long) (l1 : long ≤ 4) : ∃ reach rows bar S', f_law_meetings [.ptr 1, .int (count : Int), .int long] S = .ok (eCr reach rows bar) S' ∧ TownR [] S' ∧ Good reach rows bar ∧ rows.length = count := by
  obtain ⟨v, S1, e, reach, rows, bar, rfl, ⟨rest, hT⟩, hg, hc⟩ := meet_ok h c0 c1 l0 l1
  obtain ⟨S2, e2, hT2⟩ := run_cut (n := 18) (d := d_law_meetings) (args := [.ptr 1, .int (count : Int), .int long]) h e hT
  exact ⟨reach, rows, bar, S2, e2, hT2, hg, hc⟩
theorem ev_crowd {S : Sto} (h : TownR [] S) {count : Nat} (c0 : 2 ≤ count) (c1 : count ≤ 6) {long : Int} (l0 : 1 ≤ long) (l1 : long ≤ 4) : ∃ reach rows bar S', f_law_crowd [.ptr 1, .int (count : Int), .int long] S = .ok (eCr reach rows bar) S' ∧ TownR [] S' ∧ Good reach rows bar ∧ rows.length = count := by
  have : RtI d_law_crowd [.v (.ptr 1), .v (.int (count : Int)), .v (.int long), .un, .un, .un, .un, .un, .un, .un] S fun v S' => ∃ reach rows bar, v = eCr reach rows bar ∧ TownR [] S' ∧ Good reach rows bar ∧ rows.length = count := by
    refine siIfR (ei2l fxC (ei_draw (n := 0) (t := 0) h rfl eC_ok (by decide) (by decide) fun r S1 hT1 r0 r1 => ⟨rfl, .bl (decide (0 < r)), rfl, _, rfl, ?_⟩))
    by_cases hr : 0 < r
    · rw [if_pos (by simpa using hr)]
      obtain ⟨reach, rows, bar, S2, e, h2⟩ := ev_meet hT1 c0 c1 l0 l1
      exact siRet (eiCall (elC (eiP eV_ok (elC (eiP eV_ok (elC (eiP eV_ok (elN ⟨_, S2, e, reach, rows, bar, rfl, h2⟩))))))))
    · rw [if_neg (by simpa using hr)]
      exact siNil (crowd2 hT1 c0 c1 l0 (by omega))
  obtain ⟨v, S1, e, reach, rows, bar, rfl, hT, hg, hc⟩ := this
  exact ⟨reach, rows, bar, S1, run_rt (n := 10) (d := d_law_crowd) (args := [.ptr 1, .int (count : Int), .int long]) e (TownR.len h hT), hT, hg, hc⟩
end M01

set_option maxRecDepth 100000
set_option maxHeartbeats 1000000
/-! the combinators' equations, in a form that simp can run -/
namespace Sv
open PySem Hw
variable {α β : Type}
def isB (u : PV) : Option Bool := match u with | .bl b => some b | _ => none
@[simp] theorem bind_ok {a : α} {S : Sto} {f : α → Sto → R β} : R.bind (.ok a S) f = f a S := (rfl)
@[simp] theorem bind_ex {c : Kx} {S : Sto} {f : α → Sto → R β} : R.bind (.ex c S) f = .ex c S := (rfl)
@[simp] theorem opt_some {a : α} {S : Sto} : R.opt (some a) S = .ok a S := (rfl)
@[simp] theorem noex_ok {a : α} {S : Sto} : R.noex (.ok a S) = .ok a S := (rfl)
section
variable {env : En} {S : Sto} {a b c e : Ex} {p q : Plx} {ds dk : Exs} {i : Nat} {f g : PV → PV → Option PV} {f1 : PV → Option PV} {x y : PV} {s t : Sm} {tg : Tgt} {it : Itx} {fn : Fn} {k : Kx}
/-! each combinator is run by a frame that holds what follows unread -/
-- slots
def slotV (o : Option SV) (S : Sto) : R PV := match o with | some (.v x) => .ok x S | _ => .bad
@[simp] theorem slotV_v : slotV (some (.v x)) S = .ok x S := (rfl)
@[simp] theorem eVar_s : eVar i env S = slotV env[i]? S := (rfl)
@[simp] theorem eC_s : eC x env S = .ok x S := (rfl)
def slotP (o : Option SV) (i : Nat) (S : Sto) : R Pl := match o with | some (.v x) => .ok (plOf x) S | some .un => .bad | some _ => .ok (.slot i) S | none => .bad
@[simp] theorem slotP_v : slotP (some (.v x)) i S = .ok (plOf x) S := (rfl)
@[simp] theorem slotP_own : slotP (some (.own x)) i S = .ok (.slot i) S := (rfl)
@[simp] theorem slotP_lk : slotP (some (.lk x)) i S = .ok (.slot i) S := (rfl)
@[simp] theorem pN_s : pN i env S = slotP env[i]? i S := (rfl)
def slotR (o : Option SV) : Option PV := match o with | some (.v x) => some x | some (.own x) => some x | some (.lk x) => some x | _ => none
@[simp] theorem slotR_v : slotR (some (.v x)) = some x := (rfl)
@[simp] theorem slotR_own : slotR (some (.own x)) = some x := (rfl)
@[simp] theorem slotR_lk : slotR (some (.lk x)) = some x := (rfl)
@[simp] theorem res_val : res (.val x) env S = some x := (rfl)
@[simp] theorem res_slot : res (.slot i) env S = slotR env[i]? := (rfl)
@[simp] theorem res_cell : res (.cell i) env S = S[i]? := (rfl)
@[simp] theorem plOf_non : plOf .non = .val .non := (rfl)
@[simp] theorem plOf_bl {b : Bool} : plOf (.bl b) = .val (.bl b) := (rfl)
@[simp] theorem plOf_int {b : Int} : plOf (.int b) = .val (.int b) := (rfl)
@[simp] theorem plOf_str {b : Str} : plOf (.str b) = .val (.str b) := (rfl)
@[simp] theorem plOf_tup {b : List PV} : plOf (.tup b) = .val (.tup b) := (rfl)
@[simp] theorem plOf_lst {b : List PV} : plOf (.lst b) = .val (.lst b) := (rfl)
@[simp] theorem plOf_dI {b : List (Int × PV)} : plOf (.dI b) = .val (.dI b) := (rfl)
@[simp] theorem plOf_dT {b : List (List Int × PV)} : plOf (.dT b) = .val (.dT b) := (rfl)
@[simp] theorem plOf_exc {b : Kx} : plOf (.exc b) = .val (.exc b) := (rfl)
@[simp] theorem plOf_ptr {b : Nat} : plOf (.ptr b) = .cell b := (rfl)
@[simp] theorem plOf_eS {s : M01.St3} : plOf (M01.eS s) = .val (M01.eS s) := (rfl)
@[simp] theorem plOf_eRow {s : List M01.St3} : plOf (M01.eRow s) = .val (M01.eRow s) := (rfl)
@[simp] theorem plOf_eCr {r : Int} {rows : List (List M01.St3)} {bar : List Int} : plOf (M01.eCr r rows bar) = .val (M01.eCr r rows bar) := (rfl)
@[simp] theorem plOf_eLate {s : List M01.St3} : plOf (M01.eLate s) = .val (M01.eLate s) := (rfl)
@[simp] theorem plOf_ePr {s : Int × Int} : plOf (ePr s) = .val (ePr s) := (rfl)
@[simp] theorem plOf_eK {s : Nat} : plOf (M01.eK s) = .val (M01.eK s) := (rfl)
-- expressions
def kIf (r : R PV) (a b : Ex) (env : En) : R PV := r.bind fun u S => match u with | .bl true => a env S | .bl false => b env S | _ => .bad
@[simp] theorem kIf_s {z : Bool} : kIf (.ok (.bl z) S) a b env = if z = true then a env S else b env S := by cases z <;> rfl
@[simp] theorem kIf_x : kIf (.ex k S) a b env = .ex k S := (rfl)
def kAnd (r : R PV) (b : Ex) (env : En) : R PV := r.bind fun u S => match u with | .bl true => b env S | .bl false => .ok (.bl false) S | _ => .bad
@[simp] theorem kAnd_s {z : Bool} : kAnd (.ok (.bl z) S) b env = if z = true then b env S else .ok (.bl false) S := by cases z <;> rfl
@[simp] theorem kAnd_x : kAnd (.ex k S) b env = .ex k S := (rfl)
def kOr (r : R PV) (b : Ex) (env : En) : R PV := r.bind fun u S => match u with | .bl true => .ok (.bl true) S | .bl false => b env S | _ => .bad
@[simp] theorem kOr_s {z : Bool} : kOr (.ok (.bl z) S) b env = if z = true then .ok (.bl true) S else b env S := by cases z <;> rfl
@[simp] theorem kOr_x : kOr (.ex k S) b env = .ex k S := (rfl)
def kNot (r : R PV) : R PV := r.bind fun u S => match u with | .bl b => .ok (.bl (!b)) S | _ => .bad
@[simp] theorem kNot_s {z : Bool} : kNot (.ok (.bl z) S) = .ok (.bl (!z)) S := (rfl)
@[simp] theorem kNot_x : kNot (.ex k S) = .ex k S := (rfl)
@[simp] theorem eAnd_s : eAnd a b env S = kAnd (a env S) b env := (rfl)
@[simp] theorem eOr_s : eOr a b env S = kOr (a env S) b env := (rfl)
@[simp] theorem eNot_s : eNot a env S = kNot (a env S) := (rfl)
@[simp] theorem eIf_s : eIf c a b env S = kIf (c env S) a b env := (rfl)
def k1 (f : PV → Option PV) (r : R PV) : R PV := r.bind fun u S => .opt (f u) S
@[simp] theorem k1_s : k1 f1 (.ok x S) = .opt (f1 x) S := (rfl)
@[simp] theorem eOp1_s : eOp1 f1 a env S = k1 f1 (a env S) := (rfl)
@[simp] theorem esNil_s : esNil env S = .ok [] S := (rfl)
def kCons (r : R PV) (ds : Exs) (env : En) : R (List PV) := r.bind fun u S => (ds env S).bind fun us S => .ok (u :: us) S
def kCons2 (u : PV) (r : R (List PV)) : R (List PV) := r.bind fun us S => .ok (u :: us) S
@[simp] theorem kCons_s : kCons (.ok x S) ds env = kCons2 x (ds env S) := (rfl)
@[simp] theorem kCons_x : kCons (.ex k S) ds env = .ex k S := (rfl)
@[simp] theorem kCons2_s {us : List PV} : kCons2 x (.ok us S) = .ok (x :: us) S := (rfl)
@[simp] theorem kCons2_x : kCons2 x (.ex k S) = .ex k S := (rfl)
@[simp] theorem esCons_s : esCons a ds env S = kCons (a env S) ds env := (rfl)
def kTup (r : R (List PV)) : R PV := r.bind fun us S => if us.length ≤ 1000 then .ok (.tup us) S else .bad
def kLst (r : R (List PV)) : R PV := r.bind fun us S => if us.length ≤ 1000 then .ok (.lst us) S else .bad
@[simp] theorem kTup_s {us : List PV} : kTup (.ok us S) = if us.length ≤ 1000 then .ok (.tup us) S else .bad := (rfl)
@[simp] theorem kLst_s {us : List PV} : kLst (.ok us S) = if us.length ≤ 1000 then .ok (.lst us) S else .bad := (rfl)
@[simp] theorem eTup_s : eTup ds env S = kTup (ds env S) := (rfl)
@[simp] theorem eLst_s : eLst ds env S = kLst (ds env S) := (rfl)
def kC3 (r : R PV) (v : PV) (g : PV → PV → Option PV) (c : Ex) (env : En) : R PV := r.bind fun z S => match z with | .bl true => (c env S).bind fun t S => .opt (g v t) S | .bl false => .ok (.bl false) S | _ => .bad
def kC4 (v : PV) (g : PV → PV → Option PV) (r : R PV) : R PV := r.bind fun t S => .opt (g v t) S
def kC2 (u : PV) (r : R PV) (f g : PV → PV → Option PV) (c : Ex) (env : En) : R PV := r.bind fun v S => kC3 (R.opt (f u v) S) v g c env
def kC1 (r : R PV) (f g : PV → PV → Option PV) (b c : Ex) (env : En) : R PV := r.bind fun u S => kC2 u (b env S) f g c env
@[simp] theorem kC1_s : kC1 (.ok x S) f g b c env = kC2 x (b env S) f g c env := (rfl)
@[simp] theorem kC2_s : kC2 x (.ok y S) f g c env = kC3 (R.opt (f x y) S) y g c env := (rfl)
@[simp] theorem kC3_s {z : Bool} : kC3 (.ok (.bl z) S) y g c env = if z = true then kC4 y g (c env S) else .ok (.bl false) S := by cases z <;> rfl
@[simp] theorem kC4_s : kC4 y g (.ok x S) = .opt (g y x) S := (rfl)
@[simp] theorem eChain_s : eChain f g a b c env S = kC1 (a env S) f g b c env := (rfl)
def kO (f : PV → Option PV) (o : Option PV) (S : Sto) : R PV := match o with | some u => .opt (f u) S | none => .bad
@[simp] theorem kO_s : kO f1 (some x) S = .opt (f1 x) S := (rfl)
def kP1 (f : PV → Option PV) (r : R Pl) (env : En) : R PV := r.bind fun z S => kO f (res z env S) S
@[simp] theorem kP1_s {z : Pl} : kP1 f1 (.ok z S) env = kO f1 (res z env S) S := (rfl)
@[simp] theorem kP1_x : kP1 f1 (.ex k S) env = .ex k S := (rfl)
@[simp] theorem eP1_s : eP1 f1 p env S = kP1 f1 (p env S) env := (rfl)
def kF (f : PV → PV → Option PV) (o o' : Option PV) (S : Sto) : R PV := match o with | some u => (match o' with | some v => .opt (f u v) S | none => .bad) | none => .bad
@[simp] theorem kF_s : kF f (some x) (some y) S = .opt (f x y) S := (rfl)
def kP2b (f : PV → PV → Option PV) (z : Pl) (r : R Pl) (env : En) : R PV := r.bind fun y S => kF f (res z env S) (res y env S) S
def kP2 (f : PV → PV → Option PV) (r : R Pl) (q : Plx) (env : En) : R PV := r.bind fun z S => kP2b f z (q env S) env
@[simp] theorem kP2_s {z : Pl} : kP2 f (.ok z S) q env = kP2b f z (q env S) env := (rfl)
@[simp] theorem kP2_x : kP2 f (.ex k S) q env = .ex k S := (rfl)
@[simp] theorem kP2b_s {z w : Pl} : kP2b f z (.ok w S) env = kF f (res z env S) (res w env S) S := (rfl)
@[simp] theorem kP2b_x {z : Pl} : kP2b f z (.ex k S) env = .ex k S := (rfl)
@[simp] theorem eP2_s : eP2 f p q env S = kP2 f (p env S) q env := (rfl)
def kA (r : R PV) : R Pl := r.bind fun v S => .ok (plOf v) S
@[simp] theorem kA_s : kA (.ok x S) = .ok (plOf x) S := (rfl)
@[simp] theorem kA_x : kA (.ex k S) = .ex k S := (rfl)
@[simp] theorem pA_s : pA a env S = kA (a env S) := (rfl)
def kCall (fn : Fn) (r : R (List PV)) : R PV := r.bind fun us S => fn us S
@[simp] theorem kCall_s {us : List PV} : kCall fn (.ok us S) = fn us S := (rfl)
@[simp] theorem kCall_x : kCall fn (.ex k S) = .ex k S := (rfl)
@[simp] theorem eCall_s : eCall fn ds env S = kCall fn (ds env S) := (rfl)
def kG2 (fn : Fn) (dps : List PV) (idx : List Nat) (us : List PV) (r : R (List PV)) : R PV := r.bind fun ws S => fn (sel idx (us ++ dps ++ ws)) S
def kG1 (fn : Fn) (dps : List PV) (idx : List Nat) (r : R (List PV)) (dk : Exs) (env : En) : R PV := r.bind fun us S => kG2 fn dps idx us (dk env S)
@[simp] theorem kG1_s {dps : List PV} {idx : List Nat} {us : List PV} : kG1 fn dps idx (.ok us S) dk env = kG2 fn dps idx us (dk env S) := (rfl)
@[simp] theorem kG2_s {dps : List PV} {idx : List Nat} {us ws : List PV} : kG2 fn dps idx us (.ok ws S) = fn (sel idx (us ++ dps ++ ws)) S := (rfl)
@[simp] theorem eCallG_s {dps : List PV} {idx : List Nat} : eCallG fn dps idx ds dk env S = kG1 fn dps idx (ds env S) dk env := (rfl)
def get2 (o : Option PV) (k : PV) (d : PV) (S : Sto) : R PV := match o, k with | some (.dI kvs), .int i => .ok ((dval kvs i).getD d) S | _, _ => .bad
@[simp] theorem get2_s {kvs : List (Int × PV)} {k : Int} {d : PV} : get2 (some (.dI kvs)) (.int k) d S = .ok ((dval kvs k).getD d) S := (rfl)
def kGet (z : Pl) (r : R PV) (env : En) : R PV := r.bind fun k S => get2 (res z env S) k .non S
def kGet1 (r : R Pl) (a : Ex) (env : En) : R PV := r.bind fun z S => match res z env S with | some (.dI _) => kGet z (a env S) env | _ => .bad
def dIs (o : Option PV) : Bool := match o with | some (.dI _) => true | _ => false
@[simp] theorem dIs_s {kvs : List (Int × PV)} : dIs (some (.dI kvs)) = true := (rfl)
@[simp] theorem kGet1_s {z : Pl} : kGet1 (.ok z S) a env = if dIs (res z env S) = true then kGet z (a env S) env else .bad := by
  unfold kGet1 dIs; simp only [bind_ok]; cases h : res z env S with
  | none => simp
  | some u => cases u <;> simp
@[simp] theorem kGet_s {z : Pl} : kGet z (.ok x S) env = get2 (res z env S) x .non S := (rfl)
@[simp] theorem eGet1_s : eGet1 p a env S = kGet1 (p env S) a env := by
  unfold eGet1 kGet1 kGet get2; congr
def kGetc (z : Pl) (u : PV) (r : R PV) (env : En) : R PV := r.bind fun d S => get2 (res z env S) u d S
def kGetb (z : Pl) (r : R PV) (b : Ex) (env : En) : R PV := r.bind fun u S => kGetc z u (b env S) env
def kGet2 (r : R Pl) (a b : Ex) (env : En) : R PV := r.bind fun z S => match res z env S with | some (.dI _) => kGetb z (a env S) b env | _ => .bad
@[simp] theorem kGet2_s {z : Pl} : kGet2 (.ok z S) a b env = if dIs (res z env S) = true then kGetb z (a env S) b env else .bad := by
  unfold kGet2 dIs; simp only [bind_ok]; cases h : res z env S with
  | none => simp
  | some u => cases u <;> simp
@[simp] theorem kGetb_s {z : Pl} : kGetb z (.ok x S) b env = kGetc z x (b env S) env := (rfl)
@[simp] theorem kGetc_s {z : Pl} {u : PV} : kGetc z u (.ok x S) env = get2 (res z env S) u x S := (rfl)
@[simp] theorem eGet2_s : eGet2 p a b env S = kGet2 (p env S) a b env := by
  unfold eGet2 kGet2 kGetb kGetc get2; congr
-- statements
@[simp] theorem sNil_s : sNil env S = .nx env S := (rfl)
def kSeq (r : RS) (t : Sm) : RS := match r with | .nx env S => t env S | r => r
@[simp] theorem kSeq_n : kSeq (.nx env S) t = t env S := (rfl)
@[simp] theorem kSeq_r : kSeq (.rt x S) t = .rt x S := (rfl)
@[simp] theorem kSeq_x : kSeq (.ex k env S) t = .ex k env S := (rfl)
@[simp] theorem sSeq_s : sSeq s t env S = kSeq (s env S) t := by unfold sSeq kSeq; cases s env S <;> rfl
def kEx (r : R PV) (env : En) : RS := match r with | .ok _ S => .nx env S | .ex c S => .ex c env S | .bad => .bad
def kRet (r : R PV) (env : En) : RS := match r with | .ok v S => .rt v S | .ex c S => .ex c env S | .bad => .bad
@[simp] theorem kEx_s : kEx (.ok x S) env = .nx env S := (rfl)
@[simp] theorem kEx_x : kEx (.ex k S) env = .ex k env S := (rfl)
@[simp] theorem kRet_s : kRet (.ok x S) env = .rt x S := (rfl)
@[simp] theorem kRet_x : kRet (.ex k S) env = .ex k env S := (rfl)
@[simp] theorem sEx_s : sEx a env S = kEx (a env S) env := by unfold sEx kEx; cases a env S <;> rfl
@[simp] theorem sRet_s : sRet a env S = kRet (a env S) env := by unfold sRet kRet; cases a env S <;> rfl
def kSt (o : Option En) (S : Sto) : RS := match o with | some env => .nx env S | none => .bad
@[simp] theorem kSt_s : kSt (some env) S = .nx env S := (rfl)
def kPut (tg : Tgt) (r : R PV) (env : En) : RS := match r with | .ok v S => kSt (tg v env) S | .ex c S => .ex c env S | .bad => .bad
@[simp] theorem kPut_s : kPut tg (.ok x S) env = kSt (tg x env) S := (rfl)
@[simp] theorem kPut_x : kPut tg (.ex k S) env = .ex k env S := (rfl)
@[simp] theorem sPut_s : sPut tg a env S = kPut tg (a env S) env := by
  unfold sPut kPut kSt; cases a env S <;> try rfl
def kOwn (i : Nat) (r : R PV) (env : En) : RS := match r with | .ok v S => kSt (setV i (.own v) env) S | .ex c S => .ex c env S | .bad => .bad
@[simp] theorem kOwn_s : kOwn i (.ok x S) env = kSt (setV i (.own x) env) S := (rfl)
@[simp] theorem sOwn_s : sOwn i a env S = kOwn i (a env S) env := by
  unfold sOwn kOwn kSt; cases a env S <;> try rfl
def kIfS (r : R PV) (s t : Sm) (env : En) : RS := match r with | .ok (.bl true) S => s env S | .ok (.bl false) S => t env S | .ok _ _ => .bad | .ex c S => .ex c env S | .bad => .bad
@[simp] theorem kIfS_s {z : Bool} : kIfS (.ok (.bl z) S) s t env = if z = true then s env S else t env S := by cases z <;> rfl
@[simp] theorem kIfS_x : kIfS (.ex k S) s t env = .ex k env S := (rfl)
@[simp] theorem sIf_s : sIf c s t env S = kIfS (c env S) s t env := by
  unfold sIf kIfS; cases c env S <;> try rfl
def kFor (r : R (List PV)) (tg : Tgt) (s : Sm) (env : En) : RS := match r with | .ok xs S => forLoop tg s xs env S | .ex c S => .ex c env S | .bad => .bad
@[simp] theorem kFor_s {xs : List PV} : kFor (.ok xs S) tg s env = forLoop tg s xs env S := (rfl)
@[simp] theorem sFor_s : sFor it tg s env S = kFor (it env S) tg s env := by unfold sFor kFor; cases it env S <;> rfl
@[simp] theorem sRaise_s {k : Kx} : sRaise k env S = .ex k env S := (rfl)
def setS (o : Option SV) (i : Nat) (x : SV) (env : En) : Option En := match o with | some (.lk _) => none | some _ => some (env.set i x) | none => none
@[simp] theorem setV_s {x : SV} : setV i x env = setS env[i]? i x env := (rfl)
@[simp] theorem setS_v {x : SV} {y : PV} : setS (some (.v y)) i x env = some (env.set i x) := (rfl)
@[simp] theorem setS_own {x : SV} {y : PV} : setS (some (.own y)) i x env = some (env.set i x) := (rfl)
@[simp] theorem setS_un {x : SV} : setS (some .un) i x env = some (env.set i x) := (rfl)
theorem setS_nlk {x y : SV} (h : M01.nlk y) : setS (some y) i x env = some (env.set i x) := by
  cases y <;> first | rfl | exact absurd rfl (h _)
@[simp] theorem tgN_s : tgN i x env = setV i (.v x) env := (rfl)
@[simp] theorem tgT_s {is : List Nat} {xs : List PV} : tgT is (.tup xs) env = tgs is xs env := (rfl)
@[simp] theorem tgT_ePr {is : List Nat} {p : Int × Int} : tgT is (ePr p) env = tgs is [.int p.1, .int p.2] env := (rfl)
@[simp] theorem tgT_eS {is : List Nat} {p : M01.St3} : tgT is (M01.eS p) env = tgs is [.int p.1, .int p.2.1, .int p.2.2] env := (rfl)
@[simp] theorem tgs_nil : tgs [] [] env = some env := (rfl)
def kTg (o : Option En) (is : List Nat) (xs : List PV) : Option En := o.bind fun e => tgs is xs e
@[simp] theorem kTg_s {is : List Nat} {xs : List PV} : kTg (some env) is xs = tgs is xs env := (rfl)
@[simp] theorem tgs_cons {is : List Nat} {xs : List PV} : tgs (i :: is) (x :: xs) env = kTg (setV i (.v x) env) is xs := (rfl)
def kApp2 (xs : List PV) (i : Nat) (r : R PV) (env : En) : RS := match r with | .ok v S => if xs.length ≤ 1000000 then .nx (env.set i (.own (.lst (xs ++ [v])))) S else .bad | .ex c S => .ex c env S | .bad => .bad
@[simp] theorem kApp2_s {xs : List PV} : kApp2 xs i (.ok x S) env = if xs.length ≤ 1000000 then .nx (env.set i (.own (.lst (xs ++ [x])))) S else .bad := (rfl)
def kApp (o : Option SV) (i : Nat) (a : Ex) (env : En) (S : Sto) : RS := match o with | some (.own (.lst xs)) => kApp2 xs i (a env S) env | _ => .bad
@[simp] theorem kApp_s {xs : List PV} : kApp (some (.own (.lst xs))) i a env S = kApp2 xs i (a env S) env := (rfl)
@[simp] theorem sApp_s : sApp i a env S = kApp env[i]? i a env S := by
  unfold sApp kApp; cases env[i]? <;> try rfl
  rename_i u; cases u <;> try rfl
  rename_i y; cases y <;> try rfl
  rename_i xs; unfold kApp2; cases a env S <;> try rfl
  rename_i v S; simp only [appP]; split <;> simp_all
def kSetd3 (kvs : List (Int × PV)) (i : Nat) (j : Int) (r : R PV) (env : En) : RS := match r with | .ok d S => if kvs.length ≤ 1000000 then .nx (env.set i (.own (.dI (dsetd kvs j d)))) S else .bad | .ex c S => .ex c env S | .bad => .bad
@[simp] theorem kSetd3_s {kvs : List (Int × PV)} {j : Int} : kSetd3 kvs i j (.ok x S) env = if kvs.length ≤ 1000000 then .nx (env.set i (.own (.dI (dsetd kvs j x)))) S else .bad := (rfl)
def kSetd2 (kvs : List (Int × PV)) (i : Nat) (r : R PV) (b : Ex) (env : En) : RS := match r with | .ok (.int j) S => kSetd3 kvs i j (b env S) env | .ok _ _ => .bad | .ex c S => .ex c env S | .bad => .bad
@[simp] theorem kSetd2_s {kvs : List (Int × PV)} {j : Int} : kSetd2 kvs i (.ok (.int j) S) b env = kSetd3 kvs i j (b env S) env := (rfl)
def kSetd (o : Option SV) (i : Nat) (a b : Ex) (env : En) (S : Sto) : RS := match o with | some (.own (.dI kvs)) => kSetd2 kvs i (a env S) b env | _ => .bad
@[simp] theorem kSetd_s {kvs : List (Int × PV)} : kSetd (some (.own (.dI kvs))) i a b env S = kSetd2 kvs i (a env S) b env := (rfl)
@[simp] theorem sSetd_s : sSetd i a b env S = kSetd env[i]? i a b env S := by
  unfold sSetd kSetd; cases env[i]? <;> try rfl
def kDput3 (kvs : List (Int × PV)) (i : Nat) (v : PV) (r : R PV) (env : En) : RS := match r with | .ok (.int j) S => if kvs.length ≤ 1000000 then .nx (env.set i (.own (.dI (dput kvs j v)))) S else .bad | .ok _ _ => .bad | .ex c S => .ex c env S | .bad => .bad
@[simp] theorem kDput3_s {kvs : List (Int × PV)} {j : Int} : kDput3 kvs i x (.ok (.int j) S) env = if kvs.length ≤ 1000000 then .nx (env.set i (.own (.dI (dput kvs j x)))) S else .bad := (rfl)
def kDput2 (o : Option SV) (i : Nat) (v : PV) (a : Ex) (env : En) (S : Sto) : RS := match o with | some (.own (.dI kvs)) => kDput3 kvs i v (a env S) env | _ => .bad
@[simp] theorem kDput2_s {kvs : List (Int × PV)} : kDput2 (some (.own (.dI kvs))) i x a env S = kDput3 kvs i x (a env S) env := (rfl)
def kDput (r : R PV) (i : Nat) (a : Ex) (env : En) : RS := match r with | .ok v S => kDput2 env[i]? i v a env S | .ex c S => .ex c env S | .bad => .bad
@[simp] theorem kDput_s : kDput (.ok x S) i a env = kDput2 env[i]? i x a env S := (rfl)
@[simp] theorem sDput_s : sDput i a b env S = kDput (b env S) i a env := by
  unfold sDput kDput kDput2 kDput3; cases b env S <;> try rfl
def toV (o : Option SV) (i : Nat) (env : En) (S : Sto) : RS := match o with | some (.own x) => .nx (env.set i (.v x)) S | some (.v _) => .nx env S | _ => .bad
@[simp] theorem toV_own {x : PV} : toV (some (.own x)) i env S = .nx (env.set i (.v x)) S := (rfl)
@[simp] theorem toV_v {x : PV} : toV (some (.v x)) i env S = .nx env S := (rfl)
@[simp] theorem sFzD_s : sFzD i env S = toV env[i]? i env S := (rfl)
def toL (o : Option SV) (i : Nat) (env : En) (S : Sto) : RS := match o with | some (.own (.lst xs)) => .nx (env.set i (.v (.lst xs))) S | some (.v _) => .nx env S | _ => .bad
@[simp] theorem toL_own {x : List PV} : toL (some (.own (.lst x))) i env S = .nx (env.set i (.v (.lst x))) S := (rfl)
@[simp] theorem toL_v {x : PV} : toL (some (.v x)) i env S = .nx env S := (rfl)
@[simp] theorem sFz_s : sFz i env S = toL env[i]? i env S := (rfl)
def kPar (is : List Nat) (r : R (List PV)) (env : En) : RS := match r with | .ok us S => kSt (tgs is us env) S | .ex c S => .ex c env S | .bad => .bad
@[simp] theorem kPar_s {is : List Nat} {us : List PV} : kPar is (.ok us S) env = kSt (tgs is us env) S := (rfl)
@[simp] theorem sPar_s {is : List Nat} : sPar is ds env S = kPar is (ds env S) env := by
  unfold sPar kPar kSt; cases ds env S <;> try rfl
def kIor2 (kvs : List (Int × PV)) (i : Nat) (r : R PV) (env : En) : RS := match r with | .ok (.dI more) S => if kvs.length ≤ 1000000 ∧ more.length ≤ 1000000 then .nx (env.set i (.own (.dI (mergeD kvs more)))) S else .bad | .ok _ _ => .bad | .ex c S => .ex c env S | .bad => .bad
@[simp] theorem kIor2_s {kvs more : List (Int × PV)} : kIor2 kvs i (.ok (.dI more) S) env = if kvs.length ≤ 1000000 ∧ more.length ≤ 1000000 then .nx (env.set i (.own (.dI (mergeD kvs more)))) S else .bad := (rfl)
def kIor (o : Option SV) (i : Nat) (a : Ex) (env : En) (S : Sto) : RS := match o with | some (.own (.dI kvs)) => kIor2 kvs i (a env S) env | _ => .bad
@[simp] theorem kIor_s {kvs : List (Int × PV)} : kIor (some (.own (.dI kvs))) i a env S = kIor2 kvs i (a env S) env := (rfl)
@[simp] theorem sIor_s : sIor i a env S = kIor env[i]? i a env S := by
  unfold sIor kIor; cases env[i]? <;> try rfl
def kExt2 (xs : List PV) (i : Nat) (r : R PV) (env : En) : RS := match r with | .ok (.lst ys) S => if xs.length ≤ 1000000 ∧ ys.length ≤ 1000000 then .nx (env.set i (.own (.lst (xs ++ ys)))) S else .bad | .ok _ _ => .bad | .ex c S => .ex c env S | .bad => .bad
@[simp] theorem kExt2_s {xs ys : List PV} : kExt2 xs i (.ok (.lst ys) S) env = if xs.length ≤ 1000000 ∧ ys.length ≤ 1000000 then .nx (env.set i (.own (.lst (xs ++ ys)))) S else .bad := (rfl)
def kExt (o : Option SV) (i : Nat) (a : Ex) (env : En) (S : Sto) : RS := match o with | some (.own (.lst xs)) => kExt2 xs i (a env S) env | _ => .bad
@[simp] theorem kExt_s {xs : List PV} : kExt (some (.own (.lst xs))) i a env S = kExt2 xs i (a env S) env := (rfl)
@[simp] theorem sExt_s : sExt i a env S = kExt env[i]? i a env S := by
  unfold sExt kExt; cases env[i]? <;> try rfl
def kAug3 (o : Option PV) (i : Nat) (env : En) (S : Sto) : RS := match o with | some z => kSt (setV i (.v z) env) S | none => .bad
@[simp] theorem kAug3_s : kAug3 (some x) i env S = kSt (setV i (.v x) env) S := (rfl)
def kAug2 (u : PV) (i : Nat) (f : PV → PV → Option PV) (r : R PV) (env : En) : RS := match r with | .ok v S => kAug3 (f u v) i env S | .ex c S => .ex c env S | .bad => .bad
@[simp] theorem kAug2_s {u : PV} : kAug2 u i f (.ok x S) env = kAug3 (f u x) i env S := (rfl)
def kAug (o : Option SV) (i : Nat) (f : PV → PV → Option PV) (a : Ex) (env : En) (S : Sto) : RS := match o with | some (.v u) => kAug2 u i f (a env S) env | _ => .bad
@[simp] theorem kAug_s {u : PV} : kAug (some (.v u)) i f a env S = kAug2 u i f (a env S) env := (rfl)
@[simp] theorem sAug_s : sAug i f a env S = kAug env[i]? i f a env S := by
  unfold sAug kAug; cases env[i]? <;> try rfl
def unlk (o : Option SV) (i : Nat) (env : En) (S : Sto) : RS := match o with | some (.lk y) => .nx (env.set i (.own y)) S | _ => .bad
@[simp] theorem unlk_s {y : PV} : unlk (some (.lk y)) i env S = .nx (env.set i (.own y)) S := (rfl)
def kLk2 (i : Nat) (r : RS) : RS := match r with
  | .nx e S => unlk e[i]? i e S
  | .bk e S => (match e[i]? with | some (.lk y) => .bk (e.set i (.own y)) S | _ => .bad)
  | .ct e S => (match e[i]? with | some (.lk y) => .ct (e.set i (.own y)) S | _ => .bad)
  | .ex c e S => .ex c (e.set i .un) S
  | r => r
@[simp] theorem kLk2_s : kLk2 i (.nx env S) = unlk env[i]? i env S := (rfl)
def kLk (o : Option SV) (i : Nat) (s : Sm) (env : En) (S : Sto) : RS := match o with | some (.own x) => if isDk x then kLk2 i (s (env.set i (.lk x)) S) else .bad | _ => .bad
@[simp] theorem kLk_s {kvs : List (Int × PV)} : kLk (some (.own (.dI kvs))) i s env S = kLk2 i (s (env.set i (.lk (.dI kvs))) S) := (rfl)
@[simp] theorem sLk_s : sLk i s env S = kLk env[i]? i s env S := by
  unfold sLk kLk; cases env[i]? <;> try rfl
-- walks
def valI (p : Pl) (env : En) (S : Sto) : R (List PV) := match p with | .val x => .opt (itemsOf x) S | .slot i => (match env[i]? with | some (.lk x) => .opt (itemsOf x) S | _ => .bad) | .cell _ => .bad
def lkI (o : Option SV) (S : Sto) : R (List PV) := match o with | some (.lk x) => .opt (itemsOf x) S | _ => .bad
@[simp] theorem lkI_s {x : PV} : lkI (some (.lk x)) S = .opt (itemsOf x) S := (rfl)
@[simp] theorem valI_val : valI (.val x) env S = .opt (itemsOf x) S := (rfl)
@[simp] theorem valI_slot : valI (.slot i) env S = lkI env[i]? S := (rfl)
def kIt (r : R Pl) (env : En) : R (List PV) := r.bind fun z S => valI z env S
@[simp] theorem kIt_s {z : Pl} : kIt (.ok z S) env = valI z env S := (rfl)
@[simp] theorem iP_s : iP p env S = kIt (p env S) env := by
  unfold iP kIt; congr
@[simp] theorem items_tup {xs : List PV} : itemsOf (.tup xs) = some xs := (rfl)
@[simp] theorem items_lst {xs : List PV} : itemsOf (.lst xs) = some xs := (rfl)
@[simp] theorem items_dI {xs : List (Int × PV)} : itemsOf (.dI xs) = some (xs.map fun p => .int p.1) := (rfl)
-- the run of a def
def fin (S : Sto) (r : RS) : R PV := truncR S.length (match r with | .nx _ S' => .ok .non S' | .rt v S' => .ok v S' | .ex c _ S' => .ex c S' | _ => .bad)
@[simp] theorem fin_rt {v : PV} : fin S (.rt v S) = .ok v S := by simp [fin, truncR]
@[simp] theorem fin_nx {e : En} : fin S (.nx e S) = .ok .non S := by simp [fin, truncR]
@[simp] theorem fin_ex {c : Kx} {e : En} : fin S (.ex c e S) = .ex c S := by simp [fin, truncR]
theorem run_s {n : Nat} {d : Sm} {args : List PV} : runFn n d args S = fin S (d (args.map .v ++ List.replicate (n - args.length) .un) S) := rfl
end
-- plain operations
section
variable {i j : Int} {xs ys : List PV} {x y z : PV}
@[simp] theorem add_ii : pAdd (.int i) (.int j) = some (.int (i + j)) := (rfl)
@[simp] theorem sub_ii : pSub (.int i) (.int j) = some (.int (i - j)) := (rfl)
@[simp] theorem lt_ii : pLt (.int i) (.int j) = some (.bl (decide (i < j))) := (rfl)
@[simp] theorem le_ii : pLe (.int i) (.int j) = some (.bl (decide (i ≤ j))) := (rfl)
@[simp] theorem gt_ii : pGt (.int i) (.int j) = some (.bl (decide (j < i))) := (rfl)
@[simp] theorem ge_ii : pGe (.int i) (.int j) = some (.bl (decide (j ≤ i))) := (rfl)
@[simp] theorem eq_ii : pEq (.int i) (.int j) = some (.bl (i == j)) := M01.pEqI
@[simp] theorem ne_ii : pNeK (.int i) (.int j) = some (.bl (!(i == j))) := M01.pNeI
@[simp] theorem len_t : pLen (.tup xs) = some (.int xs.length) := (rfl)
@[simp] theorem len_l : pLen (.lst xs) = some (.int xs.length) := (rfl)
@[simp] theorem ix_t0 : pIdx (.tup (x :: xs)) (.int 0) = some x := by simp [pIdx, L2.atI, L2.ixN]
@[simp] theorem ix_t1 : pIdx (.tup (x :: y :: xs)) (.int 1) = some y := by simp [pIdx, L2.atI, L2.ixN, show (1 : Int) < (xs.length : Int) + 1 + 1 by omega]
@[simp] theorem ix_t2 : pIdx (.tup (x :: y :: z :: xs)) (.int 2) = some z := by simp [pIdx, L2.atI, L2.ixN, show (2 : Int) < (xs.length : Int) + 1 + 1 + 1 by omega]
@[simp] theorem ix_p0 {p : Int × Int} : pIdx (ePr p) (.int 0) = some (.int p.1) := (rfl)
@[simp] theorem ix_p1 {p : Int × Int} : pIdx (ePr p) (.int 1) = some (.int p.2) := (rfl)
@[simp] theorem ix_c0 {r : Int} {rows : List (List M01.St3)} {bar : List Int} : pIdx (M01.eCr r rows bar) (.int 0) = some (.int r) := (rfl)
@[simp] theorem ix_c1 {r : Int} {rows : List (List M01.St3)} {bar : List Int} : pIdx (M01.eCr r rows bar) (.int 1) = some (.tup (rows.map M01.eRow)) := (rfl)
@[simp] theorem ix_c2 {r : Int} {rows : List (List M01.St3)} {bar : List Int} : pIdx (M01.eCr r rows bar) (.int 2) = some (.tup (bar.map .int)) := (rfl)
@[simp] theorem isn_int : pIs (.int i) .non = some (.bl false) := (rfl)
@[simp] theorem isn_non : pIs .non .non = some (.bl true) := (rfl)
@[simp] theorem isn_tup : pIs (.tup xs) .non = some (.bl false) := (rfl)
@[simp] theorem isn_lst : pIs (.lst xs) .non = some (.bl false) := (rfl)
@[simp] theorem isnt_int : pIsNot (.int i) .non = some (.bl true) := (rfl)
@[simp] theorem isnt_non : pIsNot .non .non = some (.bl false) := (rfl)
@[simp] theorem isnt_tup : pIsNot (.tup xs) .non = some (.bl true) := (rfl)
@[simp] theorem isnt_lst : pIsNot (.lst xs) .non = some (.bl true) := (rfl)
@[simp] theorem isi_tup : pIsi .tuple (.tup xs) = some (.bl true) := (rfl)
@[simp] theorem isi_lst : pIsi .list (.lst xs) = some (.bl true) := (rfl)
@[simp] theorem isi_int : pIsi .int (.int i) = some (.bl true) := (rfl)
@[simp] theorem isi_intb : pIsi .bool (.int i) = some (.bl false) := (rfl)
@[simp] theorem isi_pr {p : Int × Int} : pIsi .tuple (ePr p) = some (.bl true) := (rfl)
@[simp] theorem len_pr {p : Int × Int} : pLen (ePr p) = some (.int 2) := (rfl)
end
end Sv

set_option maxRecDepth 100000
set_option maxHeartbeats 1000000
namespace N0
open PySem Hw Pg M01 Sv
/-! ### the plain meaning of rows of whispers -/
/-- a crowd -/
structure Cw where
  reach : Int
  rows : List (List St3)
  bar : List Int
abbrev Cw.n (c : Cw) : Nat := c.rows.length
abbrev eW (c : Cw) : PV := eCr c.reach c.rows c.bar
abbrev Cw.G (c : Cw) : Prop := Good c.reach c.rows c.bar
/-- who hears t at b -/
def Cw.E (c : Cw) (late : List St3) (t b : Int) : List Int := (earsN c.reach c.rows t b late).map fun k : Nat => 0 + (k : Int)
def Cw.L (c : Cw) (late : List St3) (t b : Int) : Bool := mayP c.reach c.rows c.bar t b late
def eI (l : List Int) : PV := .tup (l.map .int)
def eL (l : List Int) : PV := .lst (l.map .int)
@[simp] theorem plOf_eI {s : List Int} : plOf (eI s) = .val (eI s) := rfl
@[simp] theorem plOf_eL {s : List Int} : plOf (eL s) = .val (eL s) := rfl
@[simp] theorem items_eI {s : List Int} : itemsOf (eI s) = some (s.map .int) := (rfl)
@[simp] theorem items_eL {s : List Int} : itemsOf (eL s) = some (s.map .int) := (rfl)
@[simp] theorem len_eI {s : List Int} : pLen (eI s) = some (.int s.length) := by simp [eI]
@[simp] theorem len_eL {s : List Int} : pLen (eL s) = some (.int s.length) := by simp [eL]
@[simp] theorem isi_eI {s : List Int} : pIsi .tuple (eI s) = some (.bl true) := (rfl)
variable {c : Cw} {late : List St3}
theorem eK_map (l : List Nat) : l.map eK = (l.map fun k : Nat => 0 + (k : Int)).map .int := by rw [List.map_map]; rfl
theorem ev_E (S : Sto) (h : c.G) {t : Int} (b : Int) (g0 : 0 ≤ t) (g1 : t < c.n) : f_ears [eW c, .int t, .int b, eLate late] S = .ok (eI (c.E late t b)) S := by
  rw [ev_ears S h late b g0 g1, eK_map]; rfl
theorem ev_L (S : Sto) (h : c.G) {t : Int} (b : Int) (g0 : 0 ≤ t) (g1 : t < c.n) : f_may_tell [eW c, .int t, .int b, eLate late] S = .ok (.bl (c.L late t b)) S := ev_may_tell S h late b g0 g1
theorem E_ok {t b x : Int} (h : x ∈ c.E late t b) : 0 ≤ x ∧ x < c.n := by
  unfold Cw.E at h
  obtain ⟨k, hk, rfl⟩ := List.mem_map.mp h
  have := (List.mem_filter.mp hk).1
  rw [List.mem_range] at this
  exact ⟨by omega, by unfold Cw.n; omega⟩
def WOk (c : Cw) (w : Int × Int) : Prop := 0 ≤ w.1 ∧ w.1 ≤ 1000000000000 ∧ 0 ≤ w.2 ∧ w.2 < c.n
theorem ev_is_whisper (S : Sto) {w : Int × Int} (h : WOk c w) : f_is_whisper [eW c, ePr w] S = .ok (.bl true) S := by
  obtain ⟨h1, h2, h3, h4⟩ := h
  rw [f_is_whisper, run_s]
  have h5 : w.2 ≤ (c.rows.length : Int) - 1 := by unfold Cw.n at h4; omega
  simp [d_is_whisper, ev_is_whole, h1, h2, h3, h5]
theorem ev_look_folk (S : Sto) {l : List Int} (h0 : ∀ b ∈ l, 0 ≤ b ∧ b < c.n) (hp : l.Pairwise (· < ·)) (hl : l.length ≤ 1000) : f_look_folk [eW c, eI l] S = .ok .non S := by
  rw [f_look_folk, run_s]
  have := ev_is_folk S l c.n hl h0 hp
  simp [d_look_folk, eI] at this ⊢
  simp [this]
theorem ev_look_evening (S : Sto) (h : c.G) {l : List Int} (h0 : ∀ b ∈ l, 0 ≤ b ∧ b < c.n) (hp : l.Pairwise (· < ·)) (hl : l.length ≤ 1000) {b : Int} (b0 : 0 ≤ b) (b1 : b ≤ 1000000000000) (g : GoodL c.n late) : f_look_evening [eW c, eI l, .int b, eLate late] S = .ok .non S := by
  rw [f_look_evening, run_s]
  simp [d_look_evening, ev_look_crowd _ h, ev_look_folk S h0 hp hl, ev_look_beat S b ⟨b0, b1⟩, ev_look_lates S g]
end N0

set_option maxRecDepth 100000
set_option maxHeartbeats 1000000
namespace N0
open PySem Hw Pg M01 Sv
variable {c : Cw} {late : List St3}
def eRw (row : List (Int × Int)) : PV := .lst (row.map ePr)
@[simp] theorem plOf_eRw {s : List (Int × Int)} : plOf (eRw s) = .val (eRw s) := rfl
@[simp] theorem len_rw {s : List (Int × Int)} : pLen (eRw s) = some (.int s.length) := by simp [eRw]
@[simp] theorem isi_rw {s : List (Int × Int)} : pIsi .list (eRw s) = some (.bl true) := rfl
def RowOk (c : Cw) (row : List (Int × Int)) : Prop := row.length ≤ 60 ∧ (∀ w ∈ row, WOk c w) ∧ row.Pairwise fun a b => SrtO.lexB a b = true
theorem lexLt_pr (p q : Int × Int) : HT.lexLt [p.1, p.2] [q.1, q.2] = SrtO.lexB p q := by
  rw [HT.lexLt_cons, HT.lexLt_cons, HT.lexLt_nil_nil]
  unfold SrtO.lexB
  by_cases h : p.1 = q.1
  · simp only [h, if_true]
    by_cases h2 : p.2 = q.2
    · simp [h2]
    · simp [h2]
  · simp [h]
@[simp] theorem ge2_pr (p q : Int × Int) : pGe2 (ePr p) (ePr q) = some (.bl (!SrtO.lexB p q)) := by
  rw [← lexLt_pr]; rfl
theorem ix_rw {row : List (Int × Int)} {k : Int} (h0 : 0 ≤ k) (h1 : k < row.length) : pIdx (eRw row) (.int k) = some (ePr row[k.toNat]!) := idx_l row ePr h0 h1
theorem ev_look_row (S : Sto) {row : List (Int × Int)} (h : RowOk c row) : f_look_row [eW c, eRw row] S = .ok .non S := by
  obtain ⟨hl, hw, hp⟩ := h
  have h1 : ∀ (x : SV) (x3 x4 : SV), nlk x → nlk x3 → nlk x4 → eP1 pAll (pA (eLC (iP (pN 1)) [3] (tgN 3) (eYes) (eCall f_is_whisper (esCons (eVar 0) (esCons (eVar 3) (esNil)))))) [.v (eW c), .v (eRw row), .un, .un, .un] S = .ok (.bl (row.all fun _ => true)) S := fun _ _ _ _ _ _ =>
    all_lc (env0 := [.v (eW c), .v (eRw row), .un, .un, .un]) row ePr (fun _ => true) (by simp [eRw]) (by rfl) (by omega) fun w hm => ⟨_, rfl, by simp [ev_is_whisper S (hw w hm)]⟩
  have h2 : eP1 pAny (pA (eLC (iR1 (eP2 pSub (pA (eP1 pLen (pN 1))) (pA (eC (.int 1))))) [4] (tgN 4) (eYes) (eP2 pGe2 (pA (eP2 pIdx (pN 1) (pN 4))) (pA (eP2 pIdx (pN 1) (pA (eP2 pAdd (pN 4) (pA (eC (.int 1)))))))))) [.v (eW c), .v (eRw row), .v (.bl true), .un, .un] S = .ok (.bl ((List.range (row.length - 1 : Int).toNat).any fun _ => false)) S := by
    refine any_lc (env0 := [.v (eW c), .v (eRw row), .v (.bl true), .un, .un]) _ eK (fun _ => false) (r1_ok (j := (row.length : Int) - 1) (by simp) (by omega) (by omega)) (by rfl) (by simp; omega) fun k hk => ⟨_, rfl, ?_⟩
    rw [List.mem_range] at hk
    have e1 : pIdx (eRw row) (.int (k : Int)) = some (ePr row[k]!) := ix_rw (row := row) (k := (k : Int)) (by omega) (by omega)
    have e2 : pIdx (eRw row) (.int ((k : Int) + 1)) = some (ePr row[k + 1]!) := by
      have := ix_rw (row := row) (k := (k : Int) + 1) (by omega) (by omega)
      rwa [show ((k : Int) + 1).toNat = k + 1 by omega] at this
    have e3 : SrtO.lexB row[k]! row[k + 1]! = true := by
      rw [getElem!_pos row k (by omega), getElem!_pos row (k + 1) (by omega)]
      exact List.pairwise_iff_getElem.mp hp k (k + 1) (by omega) (by omega) (by omega)
    simpa [eK, e1, e2] using e3
  rw [f_look_row, run_s]
  have hl' : (row.length : Int) ≤ 60 := by omega
  have hall : (row.all fun _ => true) = true := by simp
  have hany : ((List.range (row.length - 1 : Int).toNat).any fun _ => false) = false := by simp
  rw [hall] at h1
  rw [hany] at h2
  have h1 := h1 .un .un .un (by simp [nlk]) (by simp [nlk]) (by simp [nlk])
  simp [d_look_row, ↓h1, ↓h2, hl']
/-! ### loops whose turns change a plain thing -/
theorem for_st {α β : Type} {g : Tgt} {body : Sm} {S : Sto} (enc : α → PV) (R : β → En → Prop) (f : β → α → β) : ∀ (l : List α) (b : β) (env : En), (∀ a ∈ l, ∀ b env, R b env → ∃ env1 env2, g (enc a) env = some env1 ∧ body env1 S = .nx env2 S ∧ R (f b a) env2) → R b env →
    ∃ env', forLoop g body (l.map enc) env S = .nx env' S ∧ R (l.foldl f b) env'
  | [], b, env, _, h => ⟨env, rfl, h⟩
  | a :: l, b, env, hs, h => by
    obtain ⟨e1, e2, h1, h2, h3⟩ := hs a (by simp) b env h
    obtain ⟨e3, h4, h5⟩ := for_st enc R f l (f b a) e2 (fun x hx => hs x (by simp [hx])) h3
    exact ⟨e3, by rw [List.map_cons, M01.for_cons h1 h2, h4], h5⟩
/-! ### since: a dict of folk and beats -/
abbrev Sn := List (Int × Int)
def eD (s : Sn) : List (Int × PV) := s.map fun p => (p.1, .int p.2)
def Sn.get (s : Sn) (k : Int) : Option Int := (s.find? fun p => p.1 = k).map (·.2)
def Sn.put (s : Sn) (k v : Int) : Sn := if (s.get k).isSome then s else s ++ [(k, v)]
theorem dval_eD (k : Int) : ∀ s : Sn, dval (eD s) k = (s.get k).map .int
  | [] => rfl
  | p :: s => by
    have ih := dval_eD k s
    show (if p.1 = k then some (PV.int p.2) else dval (eD s) k) = _
    unfold Sn.get at ih ⊢
    rw [List.find?_cons]
    by_cases h : p.1 = k
    · simp [h]
    · simp [h, ih]
theorem dhas_eD (k : Int) : ∀ s : Sn, dhas (eD s) k = (s.get k).isSome
  | [] => rfl
  | p :: s => by
    have ih := dhas_eD k s
    unfold dhas Sn.get eD at ih ⊢
    rw [List.map_cons, List.any_cons, ih, List.find?_cons]
    by_cases h : p.1 = k
    · simp [h]
    · simp [h]
theorem put_eD {s : Sn} {k v : Int} (h : (s.get k).isSome = false) : dput (eD s) k (.int v) = eD (s ++ [(k, v)]) := by
  unfold dput
  rw [dhas_eD, h]
  simp [eD]
theorem setd_eD (s : Sn) (k v : Int) : dsetd (eD s) k (.int v) = eD (s.put k v) := by
  unfold dsetd Sn.put
  rw [dval_eD]
  cases h : s.get k with
  | none => simp [put_eD (s := s) (k := k) (v := v) (by rw [h]; rfl)]
  | some x => simp
@[simp] theorem eD_len (s : Sn) : (eD s).length = s.length := by simp [eD]
/-- a dict by its keys -/
theorem dc_hold {g : Tgt} {k e : Ex} {env0 : En} {S : Sto} {b : Int} : ∀ (l : List Int) (acc : Sn), (∀ a ∈ l, ∃ env1, g (.int a) env0 = some env1 ∧ k env1 S = .ok (.int a) S ∧ e env1 S = .ok (.int b) S) → (∀ a ∈ l, acc.get a = none) → l.Nodup →
    dcLoop g eYes k e env0 (l.map .int) (eD acc) S = .ok (eD (acc ++ l.map fun a => (a, b))) S
  | [], acc, _, _, _ => by simp [dcLoop]
  | a :: l, acc, h, hn, nd => by
    obtain ⟨e1, h1, h2, h3⟩ := h a (by simp)
    have hg := hn a (by simp)
    have nd' := List.nodup_cons.mp nd
    simp only [List.map_cons, dcLoop, h1, eYes, bind_ok, h2, h3]
    rw [put_eD (by rw [hg]; rfl), dc_hold l (acc ++ [(a, b)]) (fun x hx => h x (by simp [hx])) (fun x hx => ?_) nd'.2]
    · simp
    · unfold Sn.get
      have := hn x (by simp [hx])
      unfold Sn.get at this
      rw [List.find?_append]
      have hne : a ≠ x := fun q => nd'.1 (by rw [q]; exact hx)
      simp only [Option.map_eq_none_iff] at this
      simp [this, hne]
theorem hold_dc {it : Itx} {vs : List Nat} {g : Tgt} {k e : Ex} {env env0 : En} {S : Sto} {b : Int} (l : List Int) (hi : it env S = .ok (l.map .int) S) (hw : wipeE vs env = some env0) (hl : l.length ≤ 1000000) (nd : l.Nodup)
    (hb : ∀ a ∈ l, ∃ env1, g (.int a) env0 = some env1 ∧ k env1 S = .ok (.int a) S ∧ e env1 S = .ok (.int b) S) : eDC it vs g eYes k e env S = .ok (.dI (eD (l.map fun a => (a, b)))) S := by
  unfold eDC
  have h := dc_hold (g := g) (k := k) (e := e) (env0 := env0) (S := S) (b := b) l [] hb (fun _ _ => rfl) nd
  rw [hi]
  simp only [bind_ok, hw]
  rw [if_pos (by simpa using hl)]
  have h : dcLoop g eYes k e env0 (l.map .int) [] S = .ok (eD ([] ++ l.map fun a => (a, b))) S := h
  rw [h]
  simp
end N0

set_option maxRecDepth 100000
set_option maxHeartbeats 1000000
namespace N0
open PySem Hw Pg M01 Sv
variable {c : Cw} {late : List St3}
theorem for_stN {α β : Type} {g : Tgt} {body : Sm} {S : Sto} (enc : α → PV) (R : Nat → β → En → Prop) (f : β → α → β) : ∀ (l : List α) (i : Nat) (b : β) (env : En), (∀ a ∈ l, ∀ j b env, j < i + l.length → R j b env → ∃ env1 env2, g (enc a) env = some env1 ∧ body env1 S = .nx env2 S ∧ R (j + 1) (f b a) env2) → R i b env →
    ∃ env', forLoop g body (l.map enc) env S = .nx env' S ∧ R (i + l.length) (l.foldl f b) env'
  | [], i, b, env, _, h => ⟨env, rfl, h⟩
  | a :: l, i, b, env, hs, h => by
    obtain ⟨e1, e2, h1, h2, h3⟩ := hs a (by simp) i b env (by simp) h
    obtain ⟨e3, h4, h5⟩ := for_stN enc R f l (i + 1) (f b a) e2 (fun x hx j b env hj => hs x (by simp [hx]) j b env (by simp only [List.length_cons]; omega)) h3
    exact ⟨e3, by rw [List.map_cons, M01.for_cons h1 h2, h4], by rw [List.length_cons, Nat.add_comm l.length 1, ← Nat.add_assoc]; exact h5⟩
/-- its keys are folk, each once -/
def KOk (n : Nat) (s : Sn) : Prop := (s.map (·.1)).Nodup ∧ ∀ p ∈ s, 0 ≤ p.1 ∧ p.1 < n
theorem nat_nd : ∀ (n : Nat) (l : List Nat), l.Nodup → (∀ x ∈ l, x < n) → l.length ≤ n
  | 0, l, _, h => by
    cases l with
    | nil => simp
    | cons a l => exact absurd (h a (by simp)) (by omega)
  | n + 1, l, nd, h => by
    by_cases hm : n ∈ l
    · have := nat_nd n (l.erase n) (nd.erase n) fun x hx => by
        have h1 := h x (List.mem_of_mem_erase hx)
        have h2 : x ≠ n := fun e => nd.not_mem_erase (by rw [e] at hx; exact hx)
        omega
      rw [List.length_erase_of_mem hm] at this
      omega
    · have := nat_nd n l nd fun x hx => by
        have h1 := h x hx
        have h2 : x ≠ n := fun e => hm (by rw [← e]; exact hx)
        omega
      omega
theorem nodup_len {n : Nat} : ∀ {l : List Int}, l.Nodup → (∀ x ∈ l, 0 ≤ x ∧ x < n) → l.length ≤ n := by
  intro l nd h
  have h2 : (l.map Int.toNat).Nodup := by
    refine List.pairwise_map.mpr (List.Pairwise.imp_of_mem (fun {a b} ha hb hne q => hne ?_) nd)
    have := h a ha; have := h b hb; omega
  have h3 := nat_nd n (l.map Int.toNat) h2 fun x hx => by
    obtain ⟨a, ha, rfl⟩ := List.mem_map.mp hx
    have := h a ha
    omega
  simpa using h3
theorem KOk.len {n : Nat} {s : Sn} (h : KOk n s) : s.length ≤ n := by
  have := nodup_len h.1 (fun x hx => by
    obtain ⟨p, hp, rfl⟩ := List.mem_map.mp hx
    exact h.2 p hp)
  simpa using this
theorem get_none {s : Sn} {k : Int} : s.get k = none ↔ k ∉ s.map (·.1) := by
  unfold Sn.get
  rw [Option.map_eq_none_iff, List.find?_eq_none]
  constructor
  · intro h hm
    obtain ⟨p, hp, e⟩ := List.mem_map.mp hm
    exact h p hp (by simpa using e)
  · intro h p hp e
    exact h (List.mem_map.mpr ⟨p, hp, by simpa using e⟩)
theorem KOk.put {n : Nat} {s : Sn} (h : KOk n s) {k v : Int} (h0 : 0 ≤ k) (h1 : k < n) : KOk n (s.put k v) := by
  unfold Sn.put
  cases q : s.get k with
  | some x => simpa using h
  | none =>
    simp only [Option.isSome_none, Bool.false_eq_true, if_false]
    refine ⟨?_, fun p hp => ?_⟩
    · rw [List.map_append, List.nodup_append]
      refine ⟨h.1, by simp, fun a ha b hb => ?_⟩
      simp only [List.map_cons, List.map_nil, List.mem_singleton] at hb
      subst hb
      exact fun e => get_none.mp q (by rw [← e]; exact ha)
    · rcases List.mem_append.mp hp with hp | hp
      · exact h.2 p hp
      · simp only [List.mem_singleton] at hp
        subst hp
        exact ⟨h0, h1⟩
def tell (c : Cw) (late : List St3) (t b : Int) (s : Sn) : Sn := (c.E late t b).foldl (fun s x => s.put x (b + 1)) s
theorem KOk.puts {n : Nat} {v : Int} : ∀ (l : List Int) {s : Sn}, KOk n s → (∀ x ∈ l, 0 ≤ x ∧ x < n) → KOk n (l.foldl (fun s x => s.put x v) s)
  | [], _, h, _ => h
  | x :: l, s, h, hl => KOk.puts l (h.put (hl x (by simp)).1 (hl x (by simp)).2) fun y hy => hl y (by simp [hy])
theorem KOk.tell {s : Sn} (h : KOk c.n s) (t b : Int) : KOk c.n (tell c late t b s) := KOk.puts _ h fun x hx => E_ok hx
/-- a whisper does nothing -/
def idle (c : Cw) (late : List St3) (begin : Int) (s : Sn) (w : Int × Int) : Bool := decide (w.1 < begin) || decide (w.1 < (s.get w.2).getD (w.1 + 1)) || !c.L late w.2 w.1
def stp (c : Cw) (late : List St3) (begin : Int) (s : Sn × List Int) (p : Nat × (Int × Int)) : Sn × List Int :=
  if idle c late begin s.1 p.2 = true then (s.1, s.2 ++ [(p.1 : Int)]) else (tell c late p.2.2 p.2.1 s.1, s.2)
def hold (l : List Int) (b : Int) : Sn := l.map fun a => (a, b)
def ixd (row : List (Int × Int)) : List (Nat × (Int × Int)) := (List.range row.length).zip row
def psd (c : Cw) (late : List St3) (holders : List Int) (row : List (Int × Int)) (begin : Int) : Sn × List Int := (ixd row).foldl (stp c late begin) (hold holders begin, [])
def Fk (n : Nat) (l : List Int) : Prop := (∀ b ∈ l, 0 ≤ b ∧ b < n) ∧ l.Pairwise (· < ·)
theorem Fk.nd {n : Nat} {l : List Int} (h : Fk n l) : l.Nodup := h.2.imp fun {a b} h => by omega
theorem Fk.len {n : Nat} {l : List Int} (h : Fk n l) : l.length ≤ n := nodup_len h.nd h.1
theorem hold_ok {n : Nat} {l : List Int} (h : Fk n l) (b : Int) : KOk n (hold l b) := by
  refine ⟨?_, fun p hp => ?_⟩
  · have : (hold l b).map (·.1) = l := by unfold hold; rw [List.map_map]; exact List.map_id _
    rw [this]; exact h.nd
  · obtain ⟨a, ha, rfl⟩ := List.mem_map.mp hp
    exact h.1 a ha
theorem enum_row (row : List (Int × Int)) : enumL (row.map ePr) = (ixd row).map fun p => .tup [.int (p.1 : Nat), ePr p.2] := by
  unfold enumL ixd
  rw [List.length_map, List.zip, List.map_zipWith, List.zipWith_map_right]
theorem G_n (h : c.G) : c.n ≤ 8 := h.n1
theorem get_eD (s : Sn) (t d : Int) : (dval (eD s) t).getD (.int d) = .int ((s.get t).getD d) := by
  rw [dval_eD]; cases s.get t <;> rfl
theorem ev_passed_on (S : Sto) (h : c.G) {holders : List Int} (hh : Fk c.n holders) {row : List (Int × Int)} (hr : ∀ w ∈ row, 0 ≤ w.2 ∧ w.2 < c.n) (hl : row.length ≤ 1000) (begin : Int) :
    f_passed_on [eW c, eI holders, eRw row, .int begin, eLate late] S = .ok (.tup [.dI (eD (psd c late holders row begin).1), eL (psd c late holders row begin).2]) S := by
  have hn := G_n h
  have h0 : eDC (iP (pN 1)) [9] (tgN 9) (eYes) (eVar 9) (eVar 3) [.v (eW c), .v (eI holders), .v (eRw row), .v (.int begin), .v (eLate late), .un, .un, .un, .un, .un, .un, .un] S = .ok (.dI (eD (hold holders begin))) S :=
    hold_dc (env0 := [.v (eW c), .v (eI holders), .v (eRw row), .v (.int begin), .v (eLate late), .un, .un, .un, .un, .un, .un, .un]) holders (by simp [eI]) (by rfl) (by have := hh.len; omega) hh.nd fun a ha => ⟨_, rfl, by simp, by simp⟩
  obtain ⟨env', h1, h2⟩ := for_stN (g := tgT [7, 8]) (S := S) (body := (sSeq (sPut (tgT [10, 11]) (eVar 8)) (sSeq (sIf (eOr (eP2 pLt (pN 10) (pN 3)) (eOr (eP2 pGt (pA (eGet2 (pN 5) (eVar 11) (eP2 pAdd (pN 10) (pA (eC (.int 1)))))) (pN 10)) (eNot (eCall f_may_tell (esCons (eVar 0) (esCons (eVar 11) (esCons (eVar 10) (esCons (eVar 4) (esNil))))))))) (sSeq (sApp 6 (eVar 7)) (sNil)) (sSeq (sFor (iP (pA (eCall f_ears (esCons (eVar 0) (esCons (eVar 11) (esCons (eVar 10) (esCons (eVar 4) (esNil)))))))) (tgN 9) (sSeq (sSetd 5 (eVar 9) (eP2 pAdd (pN 10) (pA (eC (.int 1))))) (sNil))) (sNil))) (sNil))))
    (fun p : Nat × (Int × Int) => .tup [.int (p.1 : Nat), ePr p.2])
    (fun i s env => KOk c.n s.1 ∧ s.2.length ≤ i ∧ ∃ x7 x8 x9 x10 x11, nlk x7 ∧ nlk x8 ∧ nlk x9 ∧ nlk x10 ∧ nlk x11 ∧ env = [.v (eW c), .v (eI holders), .v (eRw row), .v (.int begin), .v (eLate late), .own (.dI (eD s.1)), .own (eL s.2), x7, x8, x9, x10, x11])
    (stp c late begin) (ixd row) 0 (hold holders begin, []) [.v (eW c), .v (eI holders), .v (eRw row), .v (.int begin), .v (eLate late), .own (.dI (eD (hold holders begin))), .own (.lst []), .un, .un, .un, .un, .un]
    (fun p hp j s env hj => by
      rintro ⟨k1, k2, x7, x8, x9, x10, x11, n7, n8, n9, n10, n11, rfl⟩
      have hw := hr p.2 (List.of_mem_zip hp).2
      have hjl : j < 1000 := by simp [ixd] at hj; omega
      have kl := k1.len
      have q2 : s.2.length ≤ 1000000 := by omega
      refine ⟨[.v (eW c), .v (eI holders), .v (eRw row), .v (.int begin), .v (eLate late), .own (.dI (eD s.1)), .own (eL s.2), .v (.int (p.1 : Nat)), .v (ePr p.2), x9, x10, x11], ?_⟩
      obtain ⟨env2, g1, g2⟩ := for_st (g := tgN 9) (S := S) (body := sSeq (sSetd 5 (eVar 9) (eP2 pAdd (pN 10) (pA (eC (.int 1))))) (sNil)) PV.int
        (fun s' env => KOk c.n s' ∧ ∃ x9, nlk x9 ∧ env = [.v (eW c), .v (eI holders), .v (eRw row), .v (.int begin), .v (eLate late), .own (.dI (eD s')), .own (eL s.2), .v (.int (p.1 : Nat)), .v (ePr p.2), x9, .v (.int p.2.1), .v (.int p.2.2)])
        (fun s' x => s'.put x (p.2.1 + 1)) (c.E late p.2.2 p.2.1) s.1 [.v (eW c), .v (eI holders), .v (eRw row), .v (.int begin), .v (eLate late), .own (.dI (eD s.1)), .own (eL s.2), .v (.int (p.1 : Nat)), .v (ePr p.2), x9, .v (.int p.2.1), .v (.int p.2.2)]
        (fun x hx s' env => by
          rintro ⟨m1, y9, m9, rfl⟩
          have := m1.len
          refine ⟨[.v (eW c), .v (eI holders), .v (eRw row), .v (.int begin), .v (eLate late), .own (.dI (eD s')), .own (eL s.2), .v (.int (p.1 : Nat)), .v (ePr p.2), .v (.int x), .v (.int p.2.1), .v (.int p.2.2)], _, by simp [setS_nlk m9], ?_, m1.put (E_ok hx).1 (E_ok hx).2, .v (.int x), by simp [nlk], rfl⟩
          simp [setd_eD, show s'.length ≤ 1000000 by omega]) ⟨k1, x9, n9, rfl⟩
      by_cases hi : idle c late begin s.1 p.2 = true
      · refine ⟨[.v (eW c), .v (eI holders), .v (eRw row), .v (.int begin), .v (eLate late), .own (.dI (eD s.1)), .own (eL (s.2 ++ [(p.1 : Int)])), .v (.int (p.1 : Nat)), .v (ePr p.2), x9, .v (.int p.2.1), .v (.int p.2.2)], by simp [setS_nlk n7, setS_nlk n8], ?_, ?_⟩
        · unfold idle at hi
          by_cases a1 : p.2.1 < begin
          · simp [setS_nlk n10, setS_nlk n11, a1, eL, q2]
          · by_cases a2 : p.2.1 < (s.1.get p.2.2).getD (p.2.1 + 1)
            · simp [setS_nlk n10, setS_nlk n11, a1, get_eD, a2, eL, q2]
            · have a3 : c.L late p.2.2 p.2.1 = false := by simpa [a1, a2] using hi
              simp [setS_nlk n10, setS_nlk n11, a1, get_eD, a2, eL, ev_L S h p.2.1 hw.1 hw.2, a3, q2]
        · have : stp c late begin s p = (s.1, s.2 ++ [(p.1 : Int)]) := by unfold stp; rw [if_pos hi]
          rw [this]
          exact ⟨k1, by simp; omega, _, _, _, _, _, by simp [nlk], by simp [nlk], n9, by simp [nlk], by simp [nlk], rfl⟩
      · refine ⟨env2, by simp [setS_nlk n7, setS_nlk n8], ?_, ?_⟩
        · have a := hi
          unfold idle at a
          simp only [Bool.or_eq_true, decide_eq_true_eq, not_or, Bool.not_eq_true, Bool.not_eq_false'] at a
          simp [setS_nlk n10, setS_nlk n11, a.1.1, get_eD, a.1.2, ev_L S h p.2.1 hw.1 hw.2, a.2, ev_E S h p.2.1 hw.1 hw.2, ↓g1]
        · have : stp c late begin s p = (tell c late p.2.2 p.2.1 s.1, s.2) := by unfold stp; rw [if_neg hi]
          rw [this]
          obtain ⟨m1, y9, m9, rfl⟩ := g2
          exact ⟨m1, Nat.le_trans k2 (Nat.le_succ j), _, _, y9, _, _, by simp [nlk], by simp [nlk], m9, by simp [nlk], by simp [nlk], rfl⟩)
    ⟨hold_ok hh begin, by simp, _, _, _, _, _, nlk_un, nlk_un, nlk_un, nlk_un, nlk_un, rfl⟩
  have h3 : iEn (pN 2) [.v (eW c), .v (eI holders), .v (eRw row), .v (.int begin), .v (eLate late), .own (.dI (eD (hold holders begin))), .own (.lst []), .un, .un, .un, .un, .un] S = .ok ((ixd row).map fun p : Nat × (Int × Int) => .tup [.int (p.1 : Nat), ePr p.2]) S := by
    rw [← enum_row]; rfl
  obtain ⟨_, _, x7, x8, x9, x10, x11, _, _, _, _, _, rfl⟩ := h2
  rw [f_passed_on, run_s]
  simp [d_passed_on, ↓h0, ↓h3, ↓h1]
  simp [psd, eL]
end N0

set_option maxRecDepth 100000
set_option maxHeartbeats 1000000
namespace N0
open PySem Hw Pg M01 Sv
variable {c : Cw} {late : List St3}
/-! ### the law's own passing on -/
theorem ev_law_let (S : Sto) (h : c.G) {t : Int} (b : Int) (g0 : 0 ≤ t) (g1 : t < c.n) : f_law_let [eW c, .int t, .int b, eLate late] S = .ok (if c.L late t b = true then eL (c.E late t b) else .non) S := by
  rw [M01.ev_law_let S h late b g0 g1]
  unfold Cw.L Cw.E eL
  rw [← eK_map]
theorem isnL {l : List Int} : pIs (eL l) .non = some (.bl false) := rfl
theorem in2_eD {s : Sn} {t : Int} : pNotIn2 (.int t) (.dI (eD s)) = some (.bl (!(s.get t).isSome)) := by
  show some (PV.bl (!(dval (eD s) t).isSome)) = _
  rw [dval_eD]; cases s.get t <;> rfl
theorem ix2_eD {s : Sn} {t v : Int} (h : s.get t = some v) : pIx2 (.dI (eD s)) (.int t) = some (.int v) := by
  show dval (eD s) t = _
  rw [dval_eD, h]; rfl
theorem put_isSome {s : Sn} {k v : Int} (h : (s.get k).isSome = true) : s.put k v = s := by unfold Sn.put; rw [if_pos h]
theorem put_none {s : Sn} {k v : Int} (h : s.get k = none) : s.put k v = s ++ [(k, v)] := by unfold Sn.put; rw [h]; rfl
theorem hold_snoc (l : List Int) (a b : Int) : hold (l ++ [a]) b = hold l b ++ [(a, b)] := by simp [hold]
theorem get_hold_none {l : List Int} {a b : Int} (h : a ∉ l) : (hold l b).get a = none := by
  rw [get_none]
  have : (hold l b).map (·.1) = l := by unfold hold; rw [List.map_map]; exact List.map_id _
  rw [this]; exact h
theorem foldl_hold (b : Int) : ∀ (l acc : List Int), (acc ++ l).Nodup → l.foldl (fun s x => Sn.put s x b) (hold acc b) = hold (acc ++ l) b
  | [], acc, _ => by simp
  | x :: l, acc, h => by
    have hx : x ∉ acc := fun hm => by
      rw [List.nodup_append] at h
      exact h.2.2 x hm x (by simp) rfl
    rw [List.foldl_cons, put_none (get_hold_none hx), ← hold_snoc, foldl_hold b l (acc ++ [x]) (by simpa using h)]
    simp
theorem ixd_range (row : List (Int × Int)) : (List.range row.length).map eK = (ixd row).map fun p => eK p.1 := by
  unfold ixd
  have : ((List.range row.length).zip row).map (fun p => eK p.1) = (((List.range row.length).zip row).map Prod.fst).map eK := by rw [List.map_map]; rfl
  rw [this, List.map_fst_zip (by simp)]
theorem ixd_mem {row : List (Int × Int)} {p : Nat × (Int × Int)} (h : p ∈ ixd row) : p.1 < row.length ∧ row[p.1]? = some p.2 := by
  unfold ixd at h
  obtain ⟨i, hi, e⟩ := List.mem_iff_getElem.mp h
  rw [List.getElem_zip, List.getElem_range] at e
  subst e
  simp at hi
  exact ⟨hi, List.getElem?_eq_getElem hi⟩
theorem for_pre {α : Type} {g : Tgt} {body : Sm} {S : Sto} (enc : α → PV) (R : List α → En → Prop) : ∀ (l pre : List α) (env : En), (∀ a p q env, pre ++ l = p ++ a :: q → R p env → ∃ env1 env2, g (enc a) env = some env1 ∧ body env1 S = .nx env2 S ∧ R (p ++ [a]) env2) → R pre env →
    ∃ env', forLoop g body (l.map enc) env S = .nx env' S ∧ R (pre ++ l) env'
  | [], pre, env, _, h => ⟨env, rfl, by simpa using h⟩
  | a :: l, pre, env, hs, h => by
    obtain ⟨e1, e2, h1, h2, h3⟩ := hs a pre l env rfl h
    obtain ⟨e3, h4, h5⟩ := for_pre enc R l (pre ++ [a]) e2 (fun x p q env e => hs x p q env (by simpa using e)) h3
    exact ⟨e3, by rw [List.map_cons, M01.for_cons h1 h2, h4], by simpa using h5⟩
theorem ix_row {row : List (Int × Int)} {k : Nat} {w : Int × Int} (h : row[k]? = some w) : pIdx (eRw row) (.int (k : Int)) = some (ePr w) := by
  obtain ⟨h1, h2⟩ := List.getElem?_eq_some_iff.mp h
  have := ix_rw (row := row) (k := (k : Int)) (by omega) (by omega)
  rw [this]
  have e : ((k : Int)).toNat = k := by omega
  rw [e, getElem!_pos row k h1, h2]
theorem ev_law_given (S : Sto) (h : c.G) {holders : List Int} (hh : Fk c.n holders) {row : List (Int × Int)} (hr : ∀ w ∈ row, 0 ≤ w.2 ∧ w.2 < c.n) (hl : row.length ≤ 1000) (begin : Int) :
    f_law_given [eW c, eI holders, eRw row, .int begin, eLate late] S = .ok (.tup [.dI (eD (psd c late holders row begin).1), eL (psd c late holders row begin).2]) S := by
  have hn := G_n h
  obtain ⟨env0, p1, p2⟩ := for_pre (g := tgN 6) (S := S) (body := (sSeq (sDput 5 (eVar 6) (eVar 3)) (sNil))) PV.int
    (fun p env => ∃ x6, nlk x6 ∧ env = [.v (eW c), .v (eI holders), .v (eRw row), .v (.int begin), .v (eLate late), .own (.dI (eD (hold p begin))), x6, .un, .un, .un, .un, .un])
    holders [] [.v (eW c), .v (eI holders), .v (eRw row), .v (.int begin), .v (eLate late), .own (.dI []), .un, .un, .un, .un, .un, .un] (fun x p q env e => by
      rintro ⟨x6, n6, rfl⟩
      have nd := hh.nd
      have hl := hh.len
      rw [show holders = p ++ x :: q from e] at nd hl
      have hx : x ∉ p := fun hm => by
        rw [List.nodup_append] at nd
        exact nd.2.2 x hm x (by simp) rfl
      refine ⟨[.v (eW c), .v (eI holders), .v (eRw row), .v (.int begin), .v (eLate late), .own (.dI (eD (hold p begin))), .v (.int x), .un, .un, .un, .un, .un], _, by simp [setS_nlk n6], ?_, .v (.int x), by simp [nlk], rfl⟩
      rw [hold_snoc, ← put_eD (by rw [get_hold_none hx]; rfl)]
      have : (hold p begin).length ≤ 1000000 := by simp [hold] at hl ⊢; omega
      simp [this]) ⟨.un, nlk_un, rfl⟩
  obtain ⟨x6, n6, rfl⟩ := p2
  obtain ⟨env', h1, h2⟩ := for_stN (g := tgN 6) (S := S) (body := (sSeq (sPut (tgT [9, 10]) (eP2 pIdx (pN 2) (pN 6))) (sSeq (sPut (tgN 8) (eCall f_law_let (esCons (eVar 0) (esCons (eVar 10) (esCons (eVar 9) (esCons (eVar 4) (esNil))))))) (sSeq (sIf (eOr (eP2 pLt (pN 9) (pN 3)) (eOr (eP2 pNotIn2 (pN 10) (pN 5)) (eOr (eP2 pGt (pA (eP2 pIx2 (pN 5) (pN 10))) (pN 9)) (eP2 pIs (pN 8) (pA (eC .non)))))) (sSeq (sApp 7 (eVar 6)) (sNil)) (sSeq (sFor (iP (pN 8)) (tgN 11) (sSeq (sIf (eP2 pNotIn2 (pN 11) (pN 5)) (sSeq (sDput 5 (eVar 11) (eP2 pAdd (pN 9) (pA (eC (.int 1))))) (sNil)) (sNil)) (sNil))) (sNil))) (sNil)))))
    (fun p : Nat × (Int × Int) => eK p.1)
    (fun i s env => KOk c.n s.1 ∧ s.2.length ≤ i ∧ ∃ x6 x8 x9 x10 x11, nlk x6 ∧ nlk x8 ∧ nlk x9 ∧ nlk x10 ∧ nlk x11 ∧ env = [.v (eW c), .v (eI holders), .v (eRw row), .v (.int begin), .v (eLate late), .own (.dI (eD s.1)), x6, .own (eL s.2), x8, x9, x10, x11])
    (stp c late begin) (ixd row) 0 (hold holders begin, []) [.v (eW c), .v (eI holders), .v (eRw row), .v (.int begin), .v (eLate late), .own (.dI (eD (hold holders begin))), x6, .own (.lst []), .un, .un, .un, .un]
    (fun p hp j s env hj => by
      rintro ⟨k1, k2, x6, x8, x9, x10, x11, n6, n8, n9, n10, n11, rfl⟩
      have hw := hr p.2 (List.of_mem_zip hp).2
      have hjl : j < 1000 := by simp [ixd] at hj; omega
      have kl := k1.len
      have q2 : s.2.length ≤ 1000000 := by omega
      have qi := ix_row (ixd_mem hp).2
      refine ⟨[.v (eW c), .v (eI holders), .v (eRw row), .v (.int begin), .v (eLate late), .own (.dI (eD s.1)), .v (.int (p.1 : Nat)), .own (eL s.2), x8, x9, x10, x11], ?_⟩
      obtain ⟨env2, g1, g2⟩ := for_st (g := tgN 11) (S := S) (body := (sSeq (sIf (eP2 pNotIn2 (pN 11) (pN 5)) (sSeq (sDput 5 (eVar 11) (eP2 pAdd (pN 9) (pA (eC (.int 1))))) (sNil)) (sNil)) (sNil))) PV.int
        (fun s' env => KOk c.n s' ∧ ∃ x11, nlk x11 ∧ env = [.v (eW c), .v (eI holders), .v (eRw row), .v (.int begin), .v (eLate late), .own (.dI (eD s')), .v (.int (p.1 : Nat)), .own (eL s.2), .v (eL (c.E late p.2.2 p.2.1)), .v (.int p.2.1), .v (.int p.2.2), x11])
        (fun s' x => s'.put x (p.2.1 + 1)) (c.E late p.2.2 p.2.1) s.1 [.v (eW c), .v (eI holders), .v (eRw row), .v (.int begin), .v (eLate late), .own (.dI (eD s.1)), .v (.int (p.1 : Nat)), .own (eL s.2), .v (eL (c.E late p.2.2 p.2.1)), .v (.int p.2.1), .v (.int p.2.2), x11]
        (fun x hx s' env => by
          rintro ⟨m1, y9, m9, rfl⟩
          have := m1.len
          have q3 : s'.length ≤ 1000000 := by omega
          refine ⟨[.v (eW c), .v (eI holders), .v (eRw row), .v (.int begin), .v (eLate late), .own (.dI (eD s')), .v (.int (p.1 : Nat)), .own (eL s.2), .v (eL (c.E late p.2.2 p.2.1)), .v (.int p.2.1), .v (.int p.2.2), .v (.int x)], _, by simp [setS_nlk m9], ?_, m1.put (E_ok hx).1 (E_ok hx).2, .v (.int x), by simp [nlk], rfl⟩
          cases hg : s'.get x with
          | some v => simp [in2_eD, hg, put_isSome (s := s') (k := x) (v := p.2.1 + 1) (by rw [hg]; rfl)]
          | none =>
            rw [put_none hg, ← put_eD (by rw [hg]; rfl)]
            simp [in2_eD, hg, q3]) ⟨k1, x11, n11, rfl⟩
      by_cases hi : idle c late begin s.1 p.2 = true
      · refine ⟨[.v (eW c), .v (eI holders), .v (eRw row), .v (.int begin), .v (eLate late), .own (.dI (eD s.1)), .v (.int (p.1 : Nat)), .own (eL (s.2 ++ [(p.1 : Int)])), .v (if c.L late p.2.2 p.2.1 = true then eL (c.E late p.2.2 p.2.1) else .non), .v (.int p.2.1), .v (.int p.2.2), x11], by simp [eK, setS_nlk n6], ?_, ?_⟩
        · have hlet := M01.ev_law_let S h late p.2.1 hw.1 hw.2
          unfold idle at hi
          cases a3 : c.L late p.2.2 p.2.1 with
          | false =>
            cases a4 : s.1.get p.2.2 with
            | none =>
              by_cases a1 : p.2.1 < begin
              · simp [setS_nlk n8, setS_nlk n9, setS_nlk n10, a1, eL, q2, qi, ev_law_let S h p.2.1 hw.1 hw.2, a3]
              · simp [setS_nlk n8, setS_nlk n9, setS_nlk n10, a1, eL, q2, qi, ev_law_let S h p.2.1 hw.1 hw.2, a3, in2_eD, a4]
            | some v =>
              by_cases a1 : p.2.1 < begin
              · simp [setS_nlk n8, setS_nlk n9, setS_nlk n10, a1, eL, q2, qi, ev_law_let S h p.2.1 hw.1 hw.2, a3]
              · by_cases a2 : p.2.1 < v
                · simp [setS_nlk n8, setS_nlk n9, setS_nlk n10, a1, eL, q2, qi, ev_law_let S h p.2.1 hw.1 hw.2, a3, in2_eD, a4, ix2_eD a4, a2]
                · simp [setS_nlk n8, setS_nlk n9, setS_nlk n10, a1, eL, q2, qi, ev_law_let S h p.2.1 hw.1 hw.2, a3, in2_eD, a4, ix2_eD a4, a2]
          | true =>
            cases a4 : s.1.get p.2.2 with
            | none =>
              by_cases a1 : p.2.1 < begin
              · simp [setS_nlk n8, setS_nlk n9, setS_nlk n10, a1, eL, q2, qi, ev_law_let S h p.2.1 hw.1 hw.2, a3]
              · simp [setS_nlk n8, setS_nlk n9, setS_nlk n10, a1, eL, q2, qi, ev_law_let S h p.2.1 hw.1 hw.2, a3, in2_eD, a4]
            | some v =>
              by_cases a1 : p.2.1 < begin
              · simp [setS_nlk n8, setS_nlk n9, setS_nlk n10, a1, eL, q2, qi, ev_law_let S h p.2.1 hw.1 hw.2, a3]
              · have a2 : p.2.1 < v := by simpa [a1, a3, a4] using hi
                simp [setS_nlk n8, setS_nlk n9, setS_nlk n10, a1, eL, q2, qi, ev_law_let S h p.2.1 hw.1 hw.2, a3, in2_eD, a4, ix2_eD a4, a2]
        · have : stp c late begin s p = (s.1, s.2 ++ [(p.1 : Int)]) := by unfold stp; rw [if_pos hi]
          rw [this]
          exact ⟨k1, by simp; omega, _, _, _, _, _, by simp [nlk], by simp [nlk], by simp [nlk], by simp [nlk], n11, rfl⟩
      · refine ⟨env2, by simp [eK, setS_nlk n6], ?_, ?_⟩
        · have a := hi
          unfold idle at a
          simp only [Bool.or_eq_true, decide_eq_true_eq, not_or, Bool.not_eq_true, Bool.not_eq_false'] at a
          cases a4 : s.1.get p.2.2 with
          | none => simp [a4] at a; omega
          | some v =>
            have a2 : ¬ p.2.1 < v := by simpa [a4] using a.1.2
            simp [setS_nlk n8, setS_nlk n9, setS_nlk n10, a.1.1, q2, qi, ev_law_let S h p.2.1 hw.1 hw.2, a.2, in2_eD, a4, ix2_eD a4, a2, isnL, ↓g1]
        · have : stp c late begin s p = (tell c late p.2.2 p.2.1 s.1, s.2) := by unfold stp; rw [if_neg hi]
          rw [this]
          obtain ⟨m1, y9, m9, rfl⟩ := g2
          exact ⟨m1, Nat.le_trans k2 (Nat.le_succ j), _, _, _, _, y9, by simp [nlk], by simp [nlk], by simp [nlk], by simp [nlk], m9, rfl⟩)
    ⟨hold_ok hh begin, by simp, _, _, _, _, _, n6, nlk_un, nlk_un, nlk_un, nlk_un, rfl⟩
  have h3 : iR1 (eP1 pLen (pN 2)) [.v (eW c), .v (eI holders), .v (eRw row), .v (.int begin), .v (eLate late), .own (.dI (eD (hold holders begin))), x6, .own (.lst []), .un, .un, .un, .un] S = .ok ((ixd row).map fun p : Nat × (Int × Int) => eK p.1) S := by
    rw [← ixd_range]
    have := r1_ok (d := eP1 pLen (pN 2)) (env := [.v (eW c), .v (eI holders), .v (eRw row), .v (.int begin), .v (eLate late), .own (.dI (eD (hold holders begin))), x6, .own (.lst []), .un, .un, .un, .un]) (S := S) (j := (row.length : Int)) (by simp) (by omega) (by omega)
    rw [this]; simp
  obtain ⟨_, _, y6, x8, x9, x10, x11, _, _, _, _, _, rfl⟩ := h2
  rw [f_law_given, run_s]
  simp [d_law_given, ↓eDI0, ↓p1, ↓h3, ↓h1]
  simp [psd, eL]
end N0

set_option maxRecDepth 100000
set_option maxHeartbeats 1000000
namespace N0
open PySem Hw Pg M01 Sv
variable {c : Cw} {late : List St3}
/-! ### what folds do, without numbers -/
abbrev Wh := Int × Int
def one (c : Cw) (late : List St3) (begin : Int) (s : Sn) (w : Wh) : Sn := if idle c late begin s w = true then s else tell c late w.2 w.1 s
def snc (c : Cw) (late : List St3) (begin : Int) (s : Sn) (row : List Wh) : Sn := row.foldl (one c late begin) s
def wrg (c : Cw) (late : List St3) (begin : Int) : Sn → Nat → List Wh → List Nat
  | _, _, [] => []
  | s, i, w :: r => if idle c late begin s w = true then i :: wrg c late begin s (i + 1) r else wrg c late begin (tell c late w.2 w.1 s) (i + 1) r
def goodW (c : Cw) (late : List St3) (begin : Int) : Sn → List Wh → List Wh
  | _, [] => []
  | s, w :: r => if idle c late begin s w = true then goodW c late begin s r else w :: goodW c late begin (tell c late w.2 w.1 s) r
variable {begin : Int}
def ixf (i : Nat) (row : List Wh) : List (Nat × Wh) := (List.range' i row.length).zip row
theorem psd_go : ∀ (row : List Wh) (i : Nat) (s : Sn) (l : List Int), (ixf i row).foldl (stp c late begin) (s, l) = (snc c late begin s row, l ++ (wrg c late begin s i row).map fun k : Nat => (k : Int))
  | [], i, s, l => by simp [ixf, snc, wrg]
  | w :: r, i, s, l => by
    have e : ixf i (w :: r) = (i, w) :: ixf (i + 1) r := by simp [ixf, List.range'_succ]
    rw [e, List.foldl_cons]
    unfold wrg snc
    rw [List.foldl_cons]
    by_cases h : idle c late begin s w = true
    · have : stp c late begin (s, l) (i, w) = (s, l ++ [(i : Int)]) := by unfold stp; rw [if_pos h]
      rw [this, psd_go r (i + 1), if_pos h]
      have : one c late begin s w = s := by unfold one; rw [if_pos h]
      rw [this]
      simp [snc]
    · have : stp c late begin (s, l) (i, w) = (tell c late w.2 w.1 s, l) := by unfold stp; rw [if_neg h]
      rw [this, psd_go r (i + 1), if_neg h]
      have : one c late begin s w = tell c late w.2 w.1 s := by unfold one; rw [if_neg h]
      rw [this]
      simp [snc]
theorem psd_eq (holders : List Int) (row : List Wh) (begin : Int) : psd c late holders row begin = (snc c late begin (hold holders begin) row, (wrg c late begin (hold holders begin) 0 row).map fun k : Nat => (k : Int)) := by
  have e : ixd row = ixf 0 row := by unfold ixd ixf; rw [List.range_eq_range']
  unfold psd
  rw [e, psd_go]
  simp
theorem wrg_ge : ∀ (row : List Wh) (i : Nat) (s : Sn), ∀ k ∈ wrg c late begin s i row, i ≤ k ∧ k < i + row.length
  | [], _, _, k, h => by simp [wrg] at h
  | w :: r, i, s, k, h => by
    unfold wrg at h
    split at h
    · rcases List.mem_cons.mp h with rfl | h
      · simp
      · have := wrg_ge r (i + 1) s k h; simp; omega
    · have := wrg_ge r (i + 1) _ k h; simp; omega
theorem good_eq : ∀ (row : List Wh) (i : Nat) (s : Sn) (W : List Nat), (∀ k, i ≤ k → (k ∈ W ↔ k ∈ wrg c late begin s i row)) → ((ixf i row).filter fun p => !W.contains p.1).map (·.2) = goodW c late begin s row
  | [], i, s, W, _ => by simp [ixf, goodW]
  | w :: r, i, s, W, h => by
    have e : ixf i (w :: r) = (i, w) :: ixf (i + 1) r := by simp [ixf, List.range'_succ]
    rw [e, List.filter_cons]
    have hi := h i (Nat.le_refl i)
    unfold goodW
    unfold wrg at h hi
    by_cases q : idle c late begin s w = true
    · rw [if_pos q] at h hi
      rw [if_pos q]
      have hm : i ∈ W := hi.mpr (by simp)
      rw [show (!W.contains ((i, w) : Nat × Wh).1) = false by simp [hm]]
      simp only [Bool.false_eq_true, if_false]
      refine good_eq r (i + 1) s W fun k hk => ?_
      rw [h k (by omega)]
      simp; omega
    · rw [if_neg q] at h hi
      rw [if_neg q]
      have hm : i ∉ W := fun hm => by
        have := wrg_ge r (i + 1) _ i (hi.mp hm); omega
      rw [show (!W.contains ((i, w) : Nat × Wh).1) = true by simp [hm]]
      simp only [if_true, List.map_cons]
      rw [good_eq r (i + 1) _ W fun k hk => h k (by omega)]
theorem good_snc : ∀ (row : List Wh) (s : Sn), snc c late begin s (goodW c late begin s row) = snc c late begin s row
  | [], s => rfl
  | w :: r, s => by
    unfold goodW
    by_cases q : idle c late begin s w = true
    · rw [if_pos q, good_snc r s]
      have : one c late begin s w = s := by unfold one; rw [if_pos q]
      simp [snc, this]
    · rw [if_neg q]
      have : one c late begin s w = tell c late w.2 w.1 s := by unfold one; rw [if_neg q]
      have ih := good_snc r (tell c late w.2 w.1 s)
      unfold snc at ih ⊢
      rw [List.foldl_cons, List.foldl_cons, this, ih]
theorem good_wrg : ∀ (row : List Wh) (i : Nat) (s : Sn), wrg c late begin s i (goodW c late begin s row) = []
  | [], i, s => rfl
  | w :: r, i, s => by
    unfold goodW
    by_cases q : idle c late begin s w = true
    · rw [if_pos q]; exact good_wrg r i s
    · rw [if_neg q]
      unfold wrg
      rw [if_neg q]
      exact good_wrg r (i + 1) _
theorem good_sub : ∀ (row : List Wh) (s : Sn), (goodW c late begin s row).Sublist row
  | [], s => .slnil
  | w :: r, s => by
    unfold goodW
    split
    · exact (good_sub r s).cons w
    · exact (good_sub r _).cons₂ w
/-- without a whisper that does nothing all is the same -/
theorem snc_drop : ∀ (row : List Wh) (i : Nat) (s : Sn), ∀ k ∈ wrg c late begin s i row, snc c late begin s (row.take (k - i) ++ row.drop (k - i + 1)) = snc c late begin s row
  | [], i, s, k, h => by simp [wrg] at h
  | w :: r, i, s, k, h => by
    unfold wrg at h
    by_cases q : idle c late begin s w = true
    · rw [if_pos q] at h
      have e : one c late begin s w = s := by unfold one; rw [if_pos q]
      rcases List.mem_cons.mp h with rfl | h
      · simp [snc, e]
      · have hk := wrg_ge r (i + 1) s k h
        have ih := snc_drop r (i + 1) s k h
        obtain ⟨d, rfl⟩ : ∃ d, k = i + 1 + d := ⟨k - (i + 1), by omega⟩
        have e1 : i + 1 + d - i = d + 1 := by omega
        have e2 : i + 1 + d - (i + 1) = d := by omega
        rw [e2] at ih
        rw [e1]
        simp only [List.take_succ_cons, List.drop_succ_cons, List.cons_append]
        unfold snc at ih ⊢
        rw [List.foldl_cons, List.foldl_cons, e, ih]
    · rw [if_neg q] at h
      have e : one c late begin s w = tell c late w.2 w.1 s := by unfold one; rw [if_neg q]
      have hk := wrg_ge r (i + 1) _ k h
      have ih := snc_drop r (i + 1) _ k h
      obtain ⟨d, rfl⟩ : ∃ d, k = i + 1 + d := ⟨k - (i + 1), by omega⟩
      have e1 : i + 1 + d - i = d + 1 := by omega
      have e2 : i + 1 + d - (i + 1) = d := by omega
      rw [e2] at ih
      rw [e1]
      simp only [List.take_succ_cons, List.drop_succ_cons, List.cons_append]
      unfold snc at ih ⊢
      rw [List.foldl_cons, List.foldl_cons, e, ih]
/-! ### have, falls, is_right, needless -/
def eO : Option Int → PV
  | none => .non
  | some v => .int v
@[simp] theorem plOf_eO {o : Option Int} : plOf (eO o) = .val (eO o) := by cases o <;> rfl
theorem getD_eO (s : Sn) (t : Int) : (dval (eD s) t).getD .non = eO (s.get t) := by
  rw [dval_eD]; cases s.get t <;> rfl
def hav (c : Cw) (s : Sn) : List (Option Int) := (List.range c.n).map fun k : Nat => s.get (k : Int)
def eOs (l : List (Option Int)) : PV := .lst (l.map eO)
@[simp] theorem plOf_eOs {l : List (Option Int)} : plOf (eOs l) = .val (eOs l) := rfl
def eNs (l : List Nat) : PV := .lst (l.map fun k : Nat => .int (k : Int))
@[simp] theorem plOf_eNs {l : List Nat} : plOf (eNs l) = .val (eNs l) := rfl
/-- a good evening -/
structure Eve (c : Cw) (late : List St3) (holders : List Int) (begin : Int) : Prop where
  g : c.G
  l : GoodL c.n late
  h : Fk c.n holders
  b0 : 0 ≤ begin
  b1 : begin ≤ 1000000000000
theorem Eve.look (S : Sto) {holders : List Int} (e : Eve c late holders begin) : f_look_evening [eW c, eI holders, .int begin, eLate late] S = .ok .non S :=
  ev_look_evening S e.g e.h.1 e.h.2 (by have := e.h.len; have := G_n e.g; omega) e.b0 e.b1 e.l
theorem RowOk.hr {row : List Wh} (h : RowOk c row) : ∀ w ∈ row, 0 ≤ w.2 ∧ w.2 < c.n := fun w hw => ⟨(h.2.1 w hw).2.2.1, (h.2.1 w hw).2.2.2⟩
theorem get_lc (S : Sto) {env env0 : En} {j k : Nat} {d : Ex} (s : Sn) (n : Nat) (hn : n ≤ 1000) (hd : d env S = .ok (.int (n : Int)) S) (hw : wipeE [j] env = some env0) (hs : ∀ i : Nat, ∃ e, tgN j (.int (i : Int)) env0 = some e ∧ eGet1 (pN k) (eVar j) e S = .ok (eO (s.get (i : Int))) S) :
    eLC (iR1 d) [j] (tgN j) eYes (eGet1 (pN k) (eVar j)) env S = .ok (eOs ((List.range n).map fun k : Nat => s.get (k : Int))) S := by
  have h1 := r1_ok (d := d) (env := env) (S := S) (j := (n : Int)) hd (by omega) (by omega)
  have := elc1 (it := iR1 d) (g := tgN j) (e := eGet1 (pN k) (eVar j)) (env := env) (env0 := env0) (S := S) (List.range n) eK (fun i : Nat => eO (s.get (i : Int))) (by rw [h1]; simp) hw (by simp; omega) (fun i _ => by
    obtain ⟨e, h1, h2⟩ := hs i
    refine ⟨e, ?_, h2⟩
    unfold eK
    rw [show (0 : Int) + (i : Int) = (i : Int) by omega]; exact h1)
  rw [this]
  unfold eOs
  rw [List.map_map]; rfl
theorem ev_have (S : Sto) {holders : List Int} (e : Eve c late holders begin) {row : List Wh} (hr : RowOk c row) : f_have [eW c, eI holders, eRw row, .int begin, eLate late] S = .ok (eOs (hav c (snc c late begin (hold holders begin) row))) S := by
  have hp := ev_passed_on (late := late) S e.g e.h hr.hr (by have := hr.1; omega) begin
  rw [psd_eq] at hp
  have hn := G_n e.g
  have h1 := get_lc S (env := [.v (eW c), .v (eI holders), .v (eRw row), .v (.int begin), .v (eLate late), .v (.dI (eD (snc c late begin (hold holders begin) row))), .un]) (j := 6) (k := 5) (d := eP1 pLen (pA (eP2 pIdx (pN 0) (pA (eC (.int 1))))))
    (snc c late begin (hold holders begin) row) c.n (by omega) (by simp [Cw.n]) (by rfl) (fun i => ⟨_, rfl, by simp [getD_eO]⟩)
  rw [f_have, run_s]
  simp [d_have, e.look S, ev_look_row S hr, hp, ↓h1, hav]
theorem ev_falls (S : Sto) {holders : List Int} (e : Eve c late holders begin) {row : List Wh} (hr : RowOk c row) : f_falls [eW c, eI holders, eRw row, .int begin, eLate late] S = .ok (eNs (wrg c late begin (hold holders begin) 0 row)) S := by
  have hp := ev_passed_on (late := late) S e.g e.h hr.hr (by have := hr.1; omega) begin
  rw [psd_eq] at hp
  rw [f_falls, run_s]
  simp [d_falls, e.look S, ev_look_row S hr, hp, eL, eNs, Function.comp_def]
@[simp] theorem sel_nil {α : Type} {l : List α} : sel [] l = [] := (rfl)
@[simp] theorem sel_cons {α : Type} {i : Nat} {is : List Nat} {l : List α} : sel (i :: is) l = (match l[i]? with | some x => x :: sel is l | none => sel is l) := by
  unfold sel; rw [List.filterMap_cons]; cases l[i]? <;> rfl
theorem sh_nat : ∀ (l : List Nat) (n : Nat), PV.shL (l.map fun k : Nat => .int (k : Int)) n = true
  | [], _ => rfl
  | k :: l, n => by
    show (PV.sh (.int _) n && PV.shL _ n) = true
    rw [sh_nat l n]; simp [PV.sh]
theorem eqnil_N (l : List Nat) : pEq (eNs l) (.lst []) = some (.bl l.isEmpty) := by
  unfold pEq eNs
  have h1 : PV.sh (.lst (l.map fun k : Nat => .int (k : Int))) 16 = true := sh_nat l 15
  rw [h1]
  cases l <;> rfl
theorem ev_is_right (S : Sto) {holders : List Int} (e : Eve c late holders begin) {row : List Wh} (hr : RowOk c row) : f_is_right [eW c, eI holders, eRw row, .int begin, eLate late] S = .ok (.bl (wrg c late begin (hold holders begin) 0 row).isEmpty) S := by
  rw [f_is_right, run_s]
  simp [d_is_right, ev_falls S e hr, eqnil_N]
theorem cut_take {α : Type} (enc : α → PV) (l : List α) (k : Nat) : pCut (.lst (l.map enc)) none (some (k : Int)) = some (.lst ((l.take k).map enc)) := by
  show some (PV.lst (cutP (l.map enc) none (some (k : Int)))) = _
  unfold cutP
  rw [HT.sIx_nat, HT.sIx_none, List.drop_zero, Nat.sub_zero, List.length_map, List.map_take]
  congr 2
  by_cases h : k ≤ l.length
  · rw [Nat.min_eq_left h]
  · rw [Nat.min_eq_right (by omega), List.take_of_length_le (by simp), List.take_of_length_le (by simp; omega)]
theorem cut_drop {α : Type} (enc : α → PV) (l : List α) (k : Nat) : pCut (.lst (l.map enc)) (some ((k : Int) + 1)) none = some (.lst ((l.drop (k + 1)).map enc)) := by
  show some (PV.lst (cutP (l.map enc) (some ((k : Int) + 1)) none)) = _
  unfold cutP
  rw [show ((k : Int) + 1) = ((k + 1 : Nat) : Int) by omega, HT.sIx_nat, HT.sIx_none, List.length_map, List.map_drop]
  congr 2
  by_cases h : k + 1 ≤ l.length
  · rw [Nat.min_eq_left h, List.take_of_length_le (by simp)]
  · rw [Nat.min_eq_right (by omega), List.drop_of_length_le (l := l.map enc) (i := k + 1) (by simp; omega)]
    simp
@[simp] theorem eOpt_n {env : En} {S : Sto} : eOpt none env S = .ok none S := (rfl)
def kOpt (r : R PV) : R (Option Int) := r.bind fun u S => match u with | .int i => .ok (some i) S | _ => .bad
@[simp] theorem kOpt_s {i : Int} {S : Sto} : kOpt (.ok (.int i) S) = .ok (some i) S := (rfl)
@[simp] theorem eOpt_s {d : Ex} {env : En} {S : Sto} : eOpt (some d) env S = kOpt (d env S) := (rfl)
def kCut4 (o : Option PV) (l u : Option Int) (S : Sto) : R PV := match o with | some x => .opt (pCut x l u) S | none => .bad
@[simp] theorem kCut4_s {x : PV} {l u : Option Int} {S : Sto} : kCut4 (some x) l u S = .opt (pCut x l u) S := (rfl)
def kCut3 (z : Pl) (l : Option Int) (r : R (Option Int)) (env : En) : R PV := r.bind fun u S => kCut4 (res z env S) l u S
@[simp] theorem kCut3_s {z : Pl} {l u : Option Int} {env : En} {S : Sto} : kCut3 z l (.ok u S) env = kCut4 (res z env S) l u S := (rfl)
def kCut2 (z : Pl) (r : R (Option Int)) (hi : Option Ex) (env : En) : R PV := r.bind fun l S => kCut3 z l (eOpt hi env S) env
@[simp] theorem kCut2_s {z : Pl} {l : Option Int} {hi : Option Ex} {env : En} {S : Sto} : kCut2 z (.ok l S) hi env = kCut3 z l (eOpt hi env S) env := (rfl)
def kCut (r : R Pl) (lo hi : Option Ex) (env : En) : R PV := r.bind fun z S => kCut2 z (eOpt lo env S) hi env
@[simp] theorem kCut_s {z : Pl} {lo hi : Option Ex} {env : En} {S : Sto} : kCut (.ok z S) lo hi env = kCut2 z (eOpt lo env S) hi env := (rfl)
@[simp] theorem eCut_s {p : Plx} {lo hi : Option Ex} {env : En} {S : Sto} : eCut p lo hi env S = kCut (p env S) lo hi env := by
  unfold eCut kCut kCut2 kCut3 kCut4; congr
def wout {α : Type} (k : Nat) (l : List α) : List α := l.take k ++ l.drop (k + 1)
theorem add_ll {xs ys : List PV} (h : xs.length + ys.length ≤ 1000000) : pAdd (.lst xs) (.lst ys) = some (.lst (xs ++ ys)) := by simp [pAdd, h]
theorem cutted (l : List Wh) (k : Nat) : ((l.take k).map ePr ++ (l.drop (k + 1)).map ePr) = (wout k l).map ePr := by simp [wout]
theorem eq_eO (a b : Option Int) : pEq (eO a) (eO b) = some (.bl (decide (a = b))) := by
  cases a <;> cases b <;> simp [eO, pEq, PV.sh, PV.eq] <;> rfl
/-- the whispers without which the goal has it from the same beat on -/
def ndl (c : Cw) (late : List St3) (begin : Int) (holders : List Int) (row : List Wh) (goal : Int) : List Nat :=
  (List.range row.length).filter fun k => decide ((snc c late begin (hold holders begin) (wout k row)).get goal = (snc c late begin (hold holders begin) row).get goal)
theorem ev_look_one' (S : Sto) {t : Int} (h0 : 0 ≤ t) (h1 : t < c.n) : f_look_one [eW c, .int t] S = .ok .non S := ev_look_one S h0 h1
theorem eNs_snoc (l : List Nat) (k : Nat) : PV.lst (l.map (fun k : Nat => PV.int (k : Int)) ++ [.int (k : Int)]) = eNs (l ++ [k]) := by simp [eNs]
theorem ev_needless (S : Sto) {holders : List Int} (e : Eve c late holders begin) {row : List Wh} (hr : RowOk c row) {goal : Int} (g0 : 0 ≤ goal) (g1 : goal < c.n) :
    f_needless [eW c, eI holders, eRw row, .int goal, .int begin, eLate late] S = .ok (eNs (ndl c late begin holders row goal)) S := by
  have hp := ev_passed_on (late := late) S e.g e.h hr.hr (by have := hr.1; omega) begin
  rw [psd_eq] at hp
  have hl := hr.1
  obtain ⟨env', h1, h2⟩ := for_pre (g := tgN 8) (S := S) (body := (sSeq (sPut (tgN 9) (eP2 pIdx (pA (eCall f_passed_on (esCons (eVar 0) (esCons (eVar 1) (esCons (eP2 pAdd (pA (eCut (pN 2) none (some (eVar 8)))) (pA (eCut (pN 2) (some (eP2 pAdd (pN 8) (pA (eC (.int 1))))) none))) (esCons (eVar 4) (esCons (eVar 5) (esNil)))))))) (pA (eC (.int 0))))) (sSeq (sIf (eP2 pEq (pA (eGet1 (pN 9) (eVar 3))) (pN 6)) (sSeq (sApp 7 (eVar 8)) (sNil)) (sNil)) (sNil)))) eK
    (fun p env => ∃ x8 x9, nlk x8 ∧ nlk x9 ∧ env = [.v (eW c), .v (eI holders), .v (eRw row), .v (.int goal), .v (.int begin), .v (eLate late), .v (eO ((snc c late begin (hold holders begin) row).get goal)),
      .own (eNs (p.filter fun k => decide ((snc c late begin (hold holders begin) (wout k row)).get goal = (snc c late begin (hold holders begin) row).get goal))), x8, x9])
    (List.range row.length) [] [.v (eW c), .v (eI holders), .v (eRw row), .v (.int goal), .v (.int begin), .v (eLate late), .v (eO ((snc c late begin (hold holders begin) row).get goal)), .own (.lst []), .un, .un]
    (fun k p q env ek => by
      rintro ⟨x8, x9, n8, n9, rfl⟩
      have hk : p.length < row.length + 1 := by
        have := congrArg List.length ek
        simp at this; omega
      have hp2 := ev_passed_on (late := late) S e.g e.h (row := wout k row) (fun w hw => hr.hr w (by
        unfold wout at hw
        rcases List.mem_append.mp hw with hw | hw
        · exact List.mem_of_mem_take hw
        · exact List.mem_of_mem_drop hw)) (by unfold wout; simp; omega) begin
      rw [psd_eq] at hp2
      refine ⟨[.v (eW c), .v (eI holders), .v (eRw row), .v (.int goal), .v (.int begin), .v (eLate late), .v (eO ((snc c late begin (hold holders begin) row).get goal)),
        .own (eNs (p.filter fun k => decide ((snc c late begin (hold holders begin) (wout k row)).get goal = (snc c late begin (hold holders begin) row).get goal))), .v (.int (k : Int)), x9], ?_⟩
      have hc : (p.filter fun k => decide ((snc c late begin (hold holders begin) (wout k row)).get goal = (snc c late begin (hold holders begin) row).get goal)).length ≤ 1000000 :=
        Nat.le_trans (List.length_filter_le _ _) (by omega)
      have hadd : pAdd (eRw (row.take k)) (eRw (row.drop (k + 1))) = some (eRw (wout k row)) := by
        unfold eRw
        rw [add_ll (by simp; omega), cutted]
      have c1 : pCut (eRw row) none (some (k : Int)) = some (eRw (row.take k)) := cut_take ePr row k
      have c2 : pCut (eRw row) (some ((k : Int) + 1)) none = some (eRw (row.drop (k + 1))) := cut_drop ePr row k
      have ow : ∀ (l : List Nat) (i : Nat) (a : Ex) (env : En) (S : Sto), kApp (some (.own (eNs l))) i a env S = kApp2 (l.map fun k : Nat => .int (k : Int)) i (a env S) env := fun _ _ _ _ _ => rfl
      by_cases hg : (snc c late begin (hold holders begin) (wout k row)).get goal = (snc c late begin (hold holders begin) row).get goal
      · refine ⟨_, by simp [eK, setS_nlk n8], ?_, .v (.int (k : Int)), .v (.dI (eD (snc c late begin (hold holders begin) (wout k row)))), by simp [nlk], by simp [nlk], rfl⟩
        have hg' : decide ((snc c late begin (hold holders begin) (wout k row)).get goal = (snc c late begin (hold holders begin) row).get goal) = true := by simp [hg]
        rw [List.filter_append, List.filter_cons, if_pos hg', List.filter_nil, ← eNs_snoc]
        simp [setS_nlk n9, c1, c2, hadd, hp2, getD_eO, eq_eO, hg, ow, hc]
      · refine ⟨_, by simp [eK, setS_nlk n8], ?_, .v (.int (k : Int)), .v (.dI (eD (snc c late begin (hold holders begin) (wout k row)))), by simp [nlk], by simp [nlk], rfl⟩
        have hg' : ¬ decide ((snc c late begin (hold holders begin) (wout k row)).get goal = (snc c late begin (hold holders begin) row).get goal) = true := by simp [hg]
        rw [List.filter_append, List.filter_cons, if_neg hg', List.filter_nil, List.append_nil]
        simp [setS_nlk n9, c1, c2, hadd, hp2, getD_eO, eq_eO, hg])
    ⟨.un, .un, nlk_un, nlk_un, by simp [eNs]⟩
  have h3 : iR1 (eP1 pLen (pN 2)) [.v (eW c), .v (eI holders), .v (eRw row), .v (.int goal), .v (.int begin), .v (eLate late), .v (eO ((snc c late begin (hold holders begin) row).get goal)), .own (.lst []), .un, .un] S = .ok ((List.range row.length).map eK) S := by
    have := r1_ok (d := eP1 pLen (pN 2)) (env := [.v (eW c), .v (eI holders), .v (eRw row), .v (.int goal), .v (.int begin), .v (eLate late), .v (eO ((snc c late begin (hold holders begin) row).get goal)), .own (.lst []), .un, .un]) (S := S) (j := (row.length : Int)) (by simp) (by omega) (by omega)
    rw [this]; simp
  obtain ⟨x8, x9, _, _, rfl⟩ := h2
  rw [f_needless, run_s]
  have tl : ∀ (l : List Nat) (i : Nat) (env : En) (S : Sto), toL (some (.own (eNs l))) i env S = .nx (env.set i (.v (eNs l))) S := fun _ _ _ _ => rfl
  simp [d_needless, e.look S, ev_look_row S hr, ev_look_one' S g0 g1, hp, getD_eO, ↓h3, ↓h1, tl, ndl]
end N0

set_option maxRecDepth 100000
set_option maxHeartbeats 1000000
namespace N0
open PySem Hw Pg M01 Sv
variable {c : Cw} {late : List St3}
/-! ### what is drawn -/
theorem fin_L {S S' : Sto} {v : PV} (h : S'.length = S.length) : fin S (.rt v S') = .ok v S' := by
  unfold fin; rw [← h]; simp [truncR]
theorem for_preS {α : Type} {g : Tgt} {body : Sm} (enc : α → PV) (R : List α → En → Sto → Prop) : ∀ (l pre : List α) (env : En) (S : Sto), (∀ a p q env S, pre ++ l = p ++ a :: q → R p env S → ∃ env1 env2 S2, g (enc a) env = some env1 ∧ body env1 S = .nx env2 S2 ∧ R (p ++ [a]) env2 S2) → R pre env S →
    ∃ env' S', forLoop g body (l.map enc) env S = .nx env' S' ∧ R (pre ++ l) env' S'
  | [], pre, env, S, _, h => ⟨env, S, rfl, by simpa using h⟩
  | a :: l, pre, env, S, hs, h => by
    obtain ⟨e1, e2, S2, h1, h2, h3⟩ := hs a pre l env S rfl h
    obtain ⟨e3, S3, h4, h5⟩ := for_preS enc R l (pre ++ [a]) e2 S2 (fun x p q env S e => hs x p q env S (by simpa using e)) h3
    exact ⟨e3, S3, by rw [List.map_cons, M01.for_cons h1 h2, h4], by simpa using h5⟩
theorem Fk.one {n : Nat} {r : Int} (h0 : 0 ≤ r) (h1 : r < n) : Fk n [r] := ⟨by simp [h0, h1], List.pairwise_singleton _ _⟩
theorem Fk.sub {n : Nat} {l' : List Nat} (h : l'.Sublist (List.range n)) : Fk n (l'.map fun k : Nat => 0 + (k : Int)) := ⟨(some_ints h).1, (some_ints h).2.1⟩
theorem ev_some {S : Sto} {rest : Sto} (hT : TownR rest S) {n : Nat} {m : Int} (hn : n ≤ 1000) (m0 : 0 < m) (m1 : m < 1073741824) : ∃ l S', f_law_some [.ptr 1, .int n, .int m] S = .ok (eI l) S' ∧ Fk n l ∧ TownR rest S' := by
  obtain ⟨l', S', e, hs, T⟩ := some_ok hT (n := n) (m := m) hn m0 m1
  exact ⟨_, S', by rw [e, eK_map]; rfl, Fk.sub hs, T⟩
theorem ev_owners {S : Sto} (hT : TownR [] S) {n : Nat} (n0 : 1 ≤ n) (n1 : n ≤ 8) : ∃ l S', f_law_owners [.ptr 1, .int n] S = .ok (eI l) S' ∧ Fk n l ∧ TownR [] S' := by
  obtain ⟨r, S1, e1, T1, r0, r1⟩ := draw_ok hT (n := (n : Int)) (by omega) (by omega)
  obtain ⟨l2, S2, e2, f2, T2⟩ := ev_some T1 (n := n) (m := 2) (by omega) (by omega) (by omega)
  obtain ⟨l3, S3, e3, f3, T3⟩ := ev_some T2 (n := n) (m := 3) (by omega) (by omega) (by omega)
  obtain ⟨x, S4, e4, hx, T4⟩ := pick_ok T3 [eI [r], eI [r], eI [r], eI l2, eI l3] (by simp) (by simp) (by simp)
  have hl : ∃ l, x = eI l ∧ Fk n l := by
    simp only [List.mem_cons, List.not_mem_nil, or_false] at hx
    rcases hx with rfl | rfl | rfl | rfl | rfl
    · exact ⟨_, rfl, Fk.one r0 r1⟩
    · exact ⟨_, rfl, Fk.one r0 r1⟩
    · exact ⟨_, rfl, Fk.one r0 r1⟩
    · exact ⟨_, rfl, f2⟩
    · exact ⟨_, rfl, f3⟩
  obtain ⟨l, rfl, hl⟩ := hl
  refine ⟨l, S4, ?_, hl, T4⟩
  rw [f_law_owners, run_s]
  have e4' : f_law_pick [.ptr 1, .lst [.tup [.int r], .tup [.int r], .tup [.int r], eI l2, eI l3]] S3 = .ok (eI l) S4 := e4
  simp [d_law_owners, e1, e2, e3, e4', fin_L (TownR.len hT T4)]
/-! ### rows drawn -/
theorem eq_pr (a b : Wh) : PV.eq (ePr a) (ePr b) = decide (a = b) := by
  obtain ⟨a1, a2⟩ := a
  obtain ⟨b1, b2⟩ := b
  show ((a1 == b1) && ((a2 == b2) && true)) = _
  by_cases h1 : a1 = b1 <;> by_cases h2 : a2 = b2 <;> simp [h1, h2]
theorem sh_prs : ∀ (l : List Wh) (n : Nat), PV.shL (l.map ePr) (n + 1) = true
  | [], _ => rfl
  | w :: l, n => by
    show (PV.sh (ePr w) (n + 1) && PV.shL (l.map ePr) (n + 1)) = true
    rw [sh_prs l n]
    rfl
theorem notin_pr (w : Wh) (ps : List Wh) : pNotInX (ePr w) (eRw ps) = some (.bl (!ps.contains w)) := by
  have h : pInX (ePr w) (eRw ps) = some (.bl (ps.contains w)) := by
    show (if flatP (ePr w) && (ps.map ePr).all flatP then some (PV.bl ((ps.map ePr).any fun z => z.eq (ePr w))) else if (ePr w).sh 16 && PV.shL (ps.map ePr) 15 then some (PV.bl ((ps.map ePr).any fun z => z.eq (ePr w))) else none) = _
    rw [show flatP (ePr w) = false from rfl, sh_prs ps 14, show (ePr w).sh 16 = true from rfl]
    simp only [Bool.false_and, Bool.false_eq_true, if_false, Bool.true_and, if_true]
    congr 2
    rw [List.any_map]
    induction ps with
    | nil => rfl
    | cons p ps ih =>
      rw [List.any_cons, ih]
      simp only [Function.comp, eq_pr, List.contains_cons]
      congr 1
      by_cases h : p = w
      · simp [h]
      · have h' : ¬ w = p := fun q => h q.symm
        simp [h, h']
  unfold pNotInX
  rw [h]
theorem sorted_pr (ps : List Wh) : pSorted (eRw ps) = some (eRw (srt SrtO.lexB ps)) := by
  cases ps with
  | nil => rfl
  | cons p ps =>
    show (match intsOf ((p :: ps).map ePr) with
      | some ns => some (PV.lst ((srt ltI ns).map .int))
      | none => match prsOf ((p :: ps).map ePr) with
        | some ps => some (.lst ((srt SrtO.lexB ps).map ePr))
        | none => none) = _
    rw [show intsOf ((p :: ps).map ePr) = none from rfl, prsOf_map]
    rfl
theorem srt_strict {ps : List Wh} (nd : ps.Nodup) : (srt SrtO.lexB ps).Pairwise fun a b => SrtO.lexB a b = true := by
  have h := srt_srtd totP ps
  have nd2 : (srt SrtO.lexB ps).Nodup := (srt_perm ps).nodup_iff.mpr nd
  refine (List.Pairwise.and h nd2).imp fun {a b} q => ?_
  cases q2 : SrtO.lexB a b with
  | true => rfl
  | false => exact absurd (totP.tot _ _ q2 q.1) q.2
theorem ev_row {S : Sto} (hT : TownR [] S) (h : c.G) {start most : Int} (m0 : 0 ≤ most) (m1 : most ≤ 50) : ∃ ps S', f_law_row [.ptr 1, eW c, .int start, .int most] S = .ok (eRw ps) S' ∧ TownR [] S' ∧ (ps.Pairwise fun a b => SrtO.lexB a b = true) ∧ (ps.length : Int) ≤ most ∧ ∀ w ∈ ps, start ≤ w.1 ∧ w.1 < start + 8 ∧ 0 ≤ w.2 ∧ w.2 < c.n := by
  obtain ⟨m, S1, e1, T1, a0, a1⟩ := draw_ok hT (n := most + 1) (by omega) (by omega)
  have hn := G_n h
  have hn0 : 2 ≤ c.n := h.n0
  obtain ⟨env', S2, h1, ps, x5, x6, n5, n6, T2, he, nd, hl, hb⟩ := for_preS (g := tgN 5) (body := (sSeq (sPut (tgN 6) (eTup (esCons (eP2 pAdd (pN 2) (pA (eCall f_law_draw (esCons (eVar 0) (esCons (eC (.int 8)) (esNil)))))) (esCons (eCall f_law_draw (esCons (eVar 0) (esCons (eP1 pLen (pA (eP2 pIdx (pN 1) (pA (eC (.int 1)))))) (esNil)))) (esNil))))) (sSeq (sPut (tgN 4) (eP2 pAdd (pN 4) (pA (eIf (eP2 pNotInX (pN 6) (pN 4)) (eLst (esCons (eVar 6) (esNil))) (eLst (esNil)))))) (sNil)))) eK
    (fun p env S => ∃ ps x5 x6, nlk x5 ∧ nlk x6 ∧ TownR [] S ∧ env = [.v (.ptr 1), .v (eW c), .v (.int start), .v (.int most), .v (eRw ps), x5, x6] ∧ ps.Nodup ∧ ps.length ≤ p.length ∧ ∀ w ∈ ps, start ≤ w.1 ∧ w.1 < start + 8 ∧ 0 ≤ w.2 ∧ w.2 < c.n)
    (List.range m.toNat) [] [.v (.ptr 1), .v (eW c), .v (.int start), .v (.int most), .v (eRw []), .un, .un] S1
    (fun k p q env S ek => by
      rintro ⟨ps, x5, x6, n5, n6, hT, rfl, nd, hl, hb⟩
      have hp : p.length ≤ 100 := by
        have := congrArg List.length ek
        simp at this; omega
      obtain ⟨r, S1, e1, T1, r0, r1⟩ := draw_ok hT (n := 8) (by omega) (by omega)
      obtain ⟨t, S2, e2, T2, t0, t1⟩ := draw_ok T1 (n := (c.n : Int)) (by omega) (by omega)
      have e2' : f_law_draw [.ptr 1, .int (c.rows.length : Nat)] S1 = .ok (.int t) S2 := e2
      have hni := notin_pr (start + r, t) ps
      have hni' : pNotInX (.tup [.int (start + r), .int t]) (eRw ps) = some (.bl (!ps.contains (start + r, t))) := hni
      by_cases hc : (start + r, t) ∈ ps
      · have hadd : pAdd (eRw ps) (.lst []) = some (eRw ps) := by unfold eRw; rw [add_ll (by simp; omega)]; simp
        exact ⟨[.v (.ptr 1), .v (eW c), .v (.int start), .v (.int most), .v (eRw ps), .v (.int (k : Int)), x6], _, S2, by simp [eK, setS_nlk n5], by simp [e1, e2', setS_nlk n6, hni', hc, hadd], ps, .v (.int (k : Int)), .v (.tup [.int (start + r), .int t]), by simp [nlk], by simp [nlk], T2, rfl, nd, by simp; omega, hb⟩
      · have hadd : pAdd (eRw ps) (.lst [.tup [.int (start + r), .int t]]) = some (eRw (ps ++ [(start + r, t)])) := by unfold eRw; rw [add_ll (by simp; omega)]; simp [ePr]
        refine ⟨[.v (.ptr 1), .v (eW c), .v (.int start), .v (.int most), .v (eRw ps), .v (.int (k : Int)), x6], _, S2, by simp [eK, setS_nlk n5], by simp [e1, e2', setS_nlk n6, hni', hc, hadd], ps ++ [(start + r, t)], .v (.int (k : Int)), .v (.tup [.int (start + r), .int t]), by simp [nlk], by simp [nlk], T2, rfl, ?_, by simp; omega, fun w hw => ?_⟩
        · rw [List.nodup_append]
          exact ⟨nd, by simp, fun a ha b hb2 e => hc (by simp at hb2; rw [← hb2, ← e]; exact ha)⟩
        · rcases List.mem_append.mp hw with hw | hw
          · exact hb w hw
          · simp only [List.mem_singleton] at hw
            subst hw
            exact ⟨by simp; omega, by simp; omega, t0, t1⟩)
    ⟨[], .un, .un, nlk_un, nlk_un, T1, rfl, by simp, by simp, by simp⟩
  subst he
  have h2 : iR1 (eCall f_law_draw (esCons (eVar 0) (esCons (eP2 pAdd (pN 3) (pA (eC (.int 1)))) (esNil)))) [.v (.ptr 1), .v (eW c), .v (.int start), .v (.int most), .v (.lst []), .un, .un] S = .ok ((List.range m.toNat).map eK) S1 :=
    r1_impI (by simp [e1]) a0 (by omega)
  refine ⟨srt SrtO.lexB ps, S2, ?_, T2, srt_strict nd, ?_, fun w hw => hb w ((srt_perm ps).mem_iff.mp hw)⟩
  · rw [f_law_row, run_s]
    have h1' : forLoop (tgN 5) _ _ [.v (.ptr 1), .v (eW c), .v (.int start), .v (.int most), .v (.lst []), .un, .un] S1 = _ := h1
    simp [d_law_row, ↓h2, ↓h1', sorted_pr, fin_L (TownR.len hT T2)]
  · rw [(srt_perm ps).length_eq]
    simp at hl
    omega
theorem ev_law_is (S : Sto) (a : Bool) : f_law_is [.bl a, .bl a] S = .ok (.bl true) S := by
  rw [f_law_is, run_s]
  have : pEq (.bl a) (.bl a) = some (.bl true) := by cases a <;> rfl
  have h2 : pIsi .bool (.bl a) = some (.bl true) := rfl
  simp [d_law_is, this, h2]
end N0

set_option maxRecDepth 100000
set_option maxHeartbeats 1000000
namespace N0
open PySem Hw Pg M01 Sv
variable {c : Cw} {late : List St3}
/-- a slot that a block may use -/
def plx (x : SV) : Prop := x = .un ∨ ∃ y, x = .v y
theorem plx_un : plx .un := .inl rfl
theorem plx_v (y : PV) : plx (.v y) := .inr ⟨y, rfl⟩
theorem plx.nlk {x : SV} (h : plx x) : nlk x := by rcases h with rfl | ⟨y, rfl⟩ <;> simp [M01.nlk]
theorem wipe1 {env : En} {i : Nat} {x : SV} (h : env[i]? = some x) (hx : plx x) : wipeE [i] env = some (env.set i .un) := by
  unfold wipeE
  rw [h]
  rcases hx with rfl | ⟨y, rfl⟩ <;> rfl
theorem fin_law {S : Sto} : fin [] (.rt (.bl true) S) = .ok (.bl true) [] := rfl
theorem lc_preS {α : Type} {g : Tgt} {e : Ex} {env0 : En} (enc : α → PV) (R : List α → List PV → Sto → Prop) : ∀ (l pre : List α) (acc : List PV) (S : Sto), (∀ a p q acc S, pre ++ l = p ++ a :: q → R p acc S → ∃ env1 v S2, g (enc a) env0 = some env1 ∧ e env1 S = .ok v S2 ∧ R (p ++ [a]) (acc ++ [v]) S2) → R pre acc S →
    ∃ ys S', lcLoop g eYes e env0 (l.map enc) S = .ok ys S' ∧ R (pre ++ l) (acc ++ ys) S'
  | [], pre, acc, S, _, h => ⟨[], S, rfl, by simpa using h⟩
  | a :: l, pre, acc, S, hs, h => by
    obtain ⟨e1, v, S2, h1, h2, h3⟩ := hs a pre l acc S rfl h
    obtain ⟨ys, S3, h4, h5⟩ := lc_preS enc R l (pre ++ [a]) (acc ++ [v]) S2 (fun x p q acc S e => hs x p q acc S (by simpa using e)) h3
    exact ⟨v :: ys, S3, by simp [lcLoop, h1, eYes, h2, h4], by simpa using h5⟩
theorem elcS {α : Type} {it : Itx} {vs : List Nat} {g : Tgt} {e : Ex} {env env0 : En} {S S1 : Sto} (enc : α → PV) (R : List α → List PV → Sto → Prop) (l : List α) (hi : it env S = .ok (l.map enc) S1) (hw : wipeE vs env = some env0) (hl : l.length ≤ 1000000)
    (hs : ∀ a p q acc S, l = p ++ a :: q → R p acc S → ∃ env1 v S2, g (enc a) env0 = some env1 ∧ e env1 S = .ok v S2 ∧ R (p ++ [a]) (acc ++ [v]) S2) (h : R [] [] S1) : ∃ ys S', eLC it vs g eYes e env S = .ok (.lst ys) S' ∧ R l ys S' := by
  obtain ⟨ys, S', h1, h2⟩ := lc_preS (g := g) (e := e) (env0 := env0) enc R l [] [] S1 (fun a p q acc S e => hs a p q acc S e) h
  refine ⟨ys, S', ?_, by simpa using h2⟩
  unfold eLC
  rw [hi]
  simp only [bind_ok, hw]
  rw [if_pos (by simpa using hl), h1]
  simp
theorem late_of {n m : Nat} {l : List Int} {ys : List St3} {lo hi : Int} (h : Fk m l) (hm : m ≤ 4) (hmn : m ≤ n) (e : ys.map (·.1) = l) (l0 : 0 ≤ lo) (h1 : hi ≤ 1000000000000) (b : ∀ y ∈ ys, lo ≤ y.2.1 ∧ y.2.1 ≤ hi ∧ 1 ≤ y.2.2 ∧ y.2.2 ≤ 6) : GoodL n ys := by
  refine ⟨?_, fun t ht => ?_, ?_⟩
  · have := h.len
    have e2 := congrArg List.length e
    simp at e2; omega
  · have h2 : t.1 ∈ l := by rw [← e]; exact List.mem_map.mpr ⟨t, ht, rfl⟩
    obtain ⟨x, y⟩ := h.1 _ h2
    obtain ⟨b1, b2, b3, b4⟩ := b t ht
    exact ⟨x, by omega, by omega, by omega, b3, b4⟩
  · have := h.2
    rw [← e, List.pairwise_map] at this
    exact this
theorem min4 (n : Nat) : ∃ m : Nat, pMin2 (.int (n : Int)) (.int 4) = some (.int (m : Int)) ∧ m ≤ 4 ∧ m ≤ n := by
  unfold pMin2
  by_cases h : (4 : Int) < n
  · exact ⟨4, by simp [h], by omega, by omega⟩
  · exact ⟨n, by simp [h], by omega, by omega⟩
theorem ne_refl {xs : List PV} (h : PV.shL xs 15 = true) (hr : PV.eqL xs xs = true) : pNeK (.lst xs) (.lst xs) = some (.bl false) := by
  have h1 : PV.sh (.lst xs) 16 = true := h
  show (if (PV.lst xs).sh 16 && (PV.lst xs).sh 16 then some (PV.bl (!(PV.lst xs).eq (.lst xs))) else none) = _
  rw [h1]
  have h2 : (PV.lst xs).eq (.lst xs) = true := hr
  simp [h2]
theorem sh_eO : ∀ (l : List (Option Int)) (n : Nat), PV.shL (l.map eO) n = true
  | [], _ => rfl
  | o :: l, n => by
    show (PV.sh (eO o) n && PV.shL (l.map eO) n) = true
    rw [sh_eO l n]; cases o <;> simp [eO, PV.sh]
theorem eq_eOs : ∀ l m : List (Option Int), PV.eqL (l.map eO) (m.map eO) = decide (l = m)
  | [], [] => by simp [PV.eqL]
  | [], _ :: _ => by simp [PV.eqL]
  | _ :: _, [] => by simp [PV.eqL]
  | a :: l, b :: m => by
    show (PV.eq (eO a) (eO b) && PV.eqL (l.map eO) (m.map eO)) = _
    rw [eq_eOs l m]
    have : PV.eq (eO a) (eO b) = decide (a = b) := by cases a <;> cases b <;> simp [eO, PV.eq] <;> rfl
    rw [this]
    by_cases h : a = b <;> by_cases h2 : l = m <;> simp [h, h2]
theorem ne_eOs (l m : List (Option Int)) : pNeK (eOs l) (eOs m) = some (.bl (!decide (l = m))) := by
  have h1 : ∀ l : List (Option Int), PV.sh (eOs l) 16 = true := fun l => sh_eO l 15
  show (if (eOs l).sh 16 && (eOs m).sh 16 then some (PV.bl (!(eOs l).eq (eOs m))) else none) = _
  rw [h1, h1]
  have h2 : (eOs l).eq (eOs m) = decide (l = m) := eq_eOs l m
  simp [h2]
theorem eq_eOsP (l m : List (Option Int)) : pEq (eOs l) (eOs m) = some (.bl (decide (l = m))) := by
  have h1 : ∀ l : List (Option Int), PV.sh (eOs l) 16 = true := fun l => sh_eO l 15
  unfold pEq
  rw [h1, h1]
  have h2 : (eOs l).eq (eOs m) = decide (l = m) := eq_eOs l m
  simp [h2]
theorem eq_ns : ∀ l m : List Nat, PV.eqL (l.map fun k : Nat => .int (k : Int)) (m.map fun k : Nat => .int (k : Int)) = decide (l = m)
  | [], [] => by simp [PV.eqL]
  | [], _ :: _ => by simp [PV.eqL]
  | _ :: _, [] => by simp [PV.eqL]
  | a :: l, b :: m => by
    show (PV.eq (.int a) (.int b) && PV.eqL (l.map fun k : Nat => .int (k : Int)) (m.map fun k : Nat => .int (k : Int))) = _
    rw [eq_ns l m]
    have : PV.eq (.int (a : Int)) (.int (b : Int)) = decide (a = b) := by
      show ((a : Int) == (b : Int)) = _
      by_cases h : a = b
      · simp [h]
      · simp [h]; omega
    rw [this]
    by_cases h : a = b <;> by_cases h2 : l = m <;> simp [h, h2]
theorem ne_eNs (l m : List Nat) : pNeK (eNs l) (eNs m) = some (.bl (!decide (l = m))) := by
  have h1 : ∀ l : List Nat, PV.sh (eNs l) 16 = true := fun l => sh_nat l 15
  show (if (eNs l).sh 16 && (eNs m).sh 16 then some (PV.bl (!(eNs l).eq (eNs m))) else none) = _
  rw [h1, h1]
  have h2 : (eNs l).eq (eNs m) = decide (l = m) := eq_ns l m
  simp [h2]
theorem eq_eNs (l m : List Nat) : pEq (eNs l) (eNs m) = some (.bl (decide (l = m))) := by
  have h1 : ∀ l : List Nat, PV.sh (eNs l) 16 = true := fun l => sh_nat l 15
  unfold pEq
  rw [h1, h1]
  have h2 : (eNs l).eq (eNs m) = decide (l = m) := eq_ns l m
  simp [h2]
theorem flat_ns : ∀ l : List Nat, (l.map fun k : Nat => PV.int (k : Int)).all flatP = true
  | [] => rfl
  | k :: l => by rw [List.map_cons, List.all_cons, flat_ns l]; rfl
theorem notin_ns (k : Nat) (l : List Nat) : pNotInX (.int (k : Int)) (eNs l) = some (.bl (!l.contains k)) := by
  have h : pInX (.int (k : Int)) (eNs l) = some (.bl (l.contains k)) := by
    show (if flatP (.int (k : Int)) && (l.map fun k : Nat => PV.int (k : Int)).all flatP then some (PV.bl ((l.map fun k : Nat => PV.int (k : Int)).any fun z => z.eq (.int (k : Int)))) else _) = _
    rw [flat_ns l, show flatP (.int (k : Int)) = true from rfl]
    simp only [Bool.true_and, if_true]
    congr 2
    rw [List.any_map]
    induction l with
    | nil => rfl
    | cons p ps ih =>
      rw [List.any_cons, ih, List.contains_cons]
      congr 1
      show ((p : Int) == (k : Int)) = (k == p)
      by_cases h : k = p
      · simp [h]
      · rw [beq_eq_false_iff_ne.mpr (by omega), beq_eq_false_iff_ne.mpr h]
  unfold pNotInX
  rw [h]
end N0

set_option maxRecDepth 100000
set_option maxHeartbeats 1000000
/-! ### how a word spreads: plain -/
namespace N0
open PySem Hw Pg M01 Sv
variable {c : Cw} {late : List St3} {H : List Int} {b : Int}
def mem (c : Cw) (late : List St3) (H : List Int) (b : Int) : Nat → Int → Prop
  | 0, x => x ∈ H
  | i + 1, x => mem c late H b i x ∨ ∃ t, mem c late H b i t ∧ c.L late t (b + i) = true ∧ x ∈ c.E late t (b + i)
theorem mem_up {i j : Nat} (h : i ≤ j) {x : Int} (m : mem c late H b i x) : mem c late H b j x := by
  induction h with
  | refl => exact m
  | step _ ih => exact .inl ih
theorem mem_fk (hH : Fk c.n H) : ∀ {i : Nat} {x : Int}, mem c late H b i x → 0 ≤ x ∧ x < c.n
  | 0, x, h => hH.1 x h
  | i + 1, x, h => by
    rcases h with h | ⟨t, _, _, h⟩
    · exact mem_fk hH h
    · exact E_ok h
def Cw.size (c : Cw) : Nat := lcmL c.rows 1
theorem size_ok (h : c.G) : 1 ≤ c.size ∧ c.size ≤ 60 := pos_60 (lcmL_60 c.rows 1 (fun r hr => ⟨h.l0 r hr, h.l1 r hr⟩) (by decide))
/-- who is late has settled -/
def Settled (late : List St3) (b : Int) : Prop := ∀ y ∈ late, y.2.1 ≤ b
theorem find_settled {b : Int} (h : Settled late b) (one : Int) : late.find? (fun t => decide (t.1 = one) && decide (t.2.1 ≤ b)) = late.find? (fun t => decide (t.1 = one)) := by
  induction late with
  | nil => rfl
  | cons y l ih =>
    rw [List.find?_cons, List.find?_cons]
    have h1 : decide (y.2.1 ≤ b) = true := by simpa using h y (by simp)
    rw [h1, Bool.and_true, ih fun z hz => h z (by simp [hz])]
theorem stood_rnd (h : c.G) {one : Int} (h0 : 0 ≤ one) (h1 : one < c.n) {b : Int} (hs : Settled late b) (k : Nat) : stoodP c.rows one (b + (c.size : Int) * k) late = stoodP c.rows one b late := by
  have hs2 : Settled late (b + (c.size : Int) * k) := fun y hy => by
    have := hs y hy
    have : 0 ≤ (c.size : Int) * (k : Int) := Int.mul_nonneg (by omega) (by omega)
    omega
  unfold stoodP
  rw [find_settled hs, find_settled hs2]
  have hd : ((c.rows[one.toNat]!.length : Nat) : Int) ∣ (c.size : Int) := Int.natCast_dvd_natCast.mpr ((dvd_lcmL c.rows 1).2 _ (get_mem h0 h1))
  obtain ⟨d, hd⟩ := hd
  have e : ∀ a : Int, (a + (c.size : Int) * k) % ((c.rows[one.toNat]!.length : Nat) : Int) = a % ((c.rows[one.toNat]!.length : Nat) : Int) := fun a => by
    rw [hd, Int.mul_assoc, Int.add_mul_emod_self_left]
  cases late.find? (fun t => decide (t.1 = one)) with
  | none => dsimp only; rw [e]
  | some t =>
    dsimp only
    rw [show b + (c.size : Int) * k - t.2.2 = (b - t.2.2) + (c.size : Int) * k by omega, e]
theorem E_rnd (h : c.G) {t : Int} (h0 : 0 ≤ t) (h1 : t < c.n) {b : Int} (hs : Settled late b) (k : Nat) : c.E late t (b + (c.size : Int) * k) = c.E late t b := by
  unfold Cw.E earsN
  congr 1
  refine List.filter_congr fun j hj => ?_
  have hj := List.mem_range.mp hj
  unfold hearP
  rw [stood_rnd h h0 h1 hs k, stood_rnd h (one := 0 + (j : Int)) (by omega) (by unfold Cw.n; omega) hs k]
theorem L_eq (c : Cw) (late : List St3) (t b : Int) : c.L late t b = (!inB c.bar t && !(c.E late t b).any fun x => inB c.bar x) := by
  unfold Cw.L mayP Cw.E
  rw [List.any_map]; rfl
theorem L_rnd (h : c.G) {t : Int} (h0 : 0 ≤ t) (h1 : t < c.n) {b : Int} (hs : Settled late b) (k : Nat) : c.L late t (b + (c.size : Int) * k) = c.L late t b := by
  rw [L_eq, L_eq, E_rnd h h0 h1 hs k]
/-- nothing is new from i on -/
def FP (c : Cw) (late : List St3) (H : List Int) (b : Int) (i : Nat) : Prop := ∀ j x, mem c late H b j x → mem c late H b i x
theorem FP.up {i j : Nat} (h : FP c late H b i) (hij : i ≤ j) : FP c late H b j := fun k x m => mem_up hij (h k x m)
def New (c : Cw) (late : List St3) (H : List Int) (b : Int) (k : Nat) : Prop := ∃ x, mem c late H b (k + 1) x ∧ ¬ mem c late H b k x
theorem fp_window (h : c.G) (hH : Fk c.n H) {i : Nat} (hs : Settled late (b + i)) (hw : ∀ k, i ≤ k → k < i + c.size → ¬ New c late H b k) : FP c late H b i := by
  have hsz := (size_ok h).1
  have step : ∀ k, i ≤ k → k < i + c.size → ∀ x, mem c late H b (k + 1) x → mem c late H b k x := fun k h1 h2 x m => by
    cases Classical.em (mem c late H b k x) with
    | inl q => exact q
    | inr q => exact absurd ⟨x, m, q⟩ (hw k h1 h2)
  have win : ∀ d, d ≤ c.size → ∀ x, mem c late H b (i + d) x → mem c late H b i x := fun d => by
    induction d with
    | zero => intro _ x m; exact m
    | succ d ih => intro hd x m; exact ih (by omega) x (step (i + d) (by omega) (by omega) x m)
  have main : ∀ j x, mem c late H b (i + j) x → mem c late H b i x := fun j => by
    induction j with
    | zero => intro x m; exact m
    | succ j ih =>
      intro x m
      have m : mem c late H b (i + j + 1) x := m
      rcases m with m | ⟨t, mt, hL, hE⟩
      · exact ih x m
      · have mt2 := ih t mt
        have ht := mem_fk hH mt2
        -- the same beat of the first round
        obtain ⟨r, q, hr, rfl⟩ : ∃ r q, r < c.size ∧ j = r + c.size * q := ⟨j % c.size, j / c.size, Nat.mod_lt _ hsz, (Nat.mod_add_div j c.size).symm⟩
        have eb : b + ((i + (r + c.size * q) : Nat) : Int) = (b + ((i + r : Nat) : Int)) + (c.size : Int) * (q : Int) := by push_cast; omega
        have hs2 : Settled late (b + ((i + r : Nat) : Int)) := fun y hy => by have := hs y hy; push_cast; omega
        rw [eb] at hL hE
        rw [L_rnd h ht.1 ht.2 hs2] at hL
        rw [E_rnd h ht.1 ht.2 hs2] at hE
        have w2 : mem c late H b (i + r + 1) x := .inr ⟨t, mem_up (Nat.le_add_right i r) mt2, hL, hE⟩
        exact win (r + 1) (by omega) x w2
  intro j x m
  by_cases hj : j ≤ i
  · exact mem_up hj m
  · obtain ⟨d, rfl⟩ : ∃ d, j = i + d := ⟨j - i, by omega⟩
    exact main d x m
open Classical in
noncomputable def cnt (c : Cw) (late : List St3) (H : List Int) (b : Int) (i : Nat) : Nat := ((List.range c.n).filter fun k : Nat => decide (mem c late H b i (k : Int))).length
open Classical in
theorem cnt_le (i : Nat) : cnt c late H b i ≤ c.n := by
  have := List.length_filter_le (fun k : Nat => decide (mem c late H b i (k : Int))) (List.range c.n)
  rw [List.length_range] at this
  exact this
theorem filter_len {p q : Nat → Bool} (hpq : ∀ k, p k = true → q k = true) : ∀ l : List Nat, (l.filter p).length ≤ (l.filter q).length ∧ ((∃ k ∈ l, q k = true ∧ p k = false) → (l.filter p).length < (l.filter q).length)
  | [] => ⟨Nat.le_refl _, fun ⟨_, h, _⟩ => nomatch h⟩
  | a :: l => by
    obtain ⟨h1, h2⟩ := filter_len hpq l
    rw [List.filter_cons, List.filter_cons]
    cases hp : p a with
    | true =>
      rw [hpq a hp]
      simp only [if_true, List.length_cons]
      refine ⟨by omega, fun ⟨k, hk, a1, a2⟩ => ?_⟩
      rcases List.mem_cons.mp hk with rfl | hk
      · rw [hp] at a2; cases a2
      · have := h2 ⟨k, hk, a1, a2⟩; omega
    | false =>
      cases hq : q a with
      | true =>
        simp only [Bool.false_eq_true, if_false, if_true, List.length_cons]
        exact ⟨by omega, fun _ => by omega⟩
      | false =>
        simp only [Bool.false_eq_true, if_false]
        refine ⟨h1, fun ⟨k, hk, a1, a2⟩ => ?_⟩
        rcases List.mem_cons.mp hk with rfl | hk
        · rw [hq] at a1; cases a1
        · exact h2 ⟨k, hk, a1, a2⟩
open Classical in
theorem cnt_up {i j : Nat} (h : i ≤ j) : cnt c late H b i ≤ cnt c late H b j := (filter_len (fun k q => by simp at q ⊢; exact mem_up h q) _).1
open Classical in
theorem cnt_new (hH : Fk c.n H) {k : Nat} (h : New c late H b k) : cnt c late H b k < cnt c late H b (k + 1) := by
  obtain ⟨x, h1, h2⟩ := h
  have hx := mem_fk hH h1
  refine (filter_len (fun k q => by simp at q ⊢; exact mem_up (Nat.le_succ _) q) _).2 ⟨x.toNat, List.mem_range.mpr (by omega), ?_, ?_⟩
  · simp only [decide_eq_true_eq]; rw [show ((x.toNat : Nat) : Int) = x by omega]; exact h1
  · simp only [decide_eq_false_iff_not]; rw [show ((x.toNat : Nat) : Int) = x by omega]; exact h2
theorem fp_far (h : c.G) (hH : Fk c.n H) {i0 : Nat} (hs : Settled late (b + i0)) : ∀ k, FP c late H b (i0 + c.size * k) ∨ k ≤ cnt c late H b (i0 + c.size * k)
  | 0 => .inr (Nat.zero_le _)
  | k + 1 => by
    rcases fp_far h hH hs k with q | q
    · exact .inl (q.up (by rw [Nat.mul_succ]; omega))
    · cases Classical.em (∃ j, i0 + c.size * k ≤ j ∧ j < i0 + c.size * k + c.size ∧ New c late H b j) with
      | inl w =>
        obtain ⟨j, j1, j2, hn⟩ := w
        have a := cnt_new hH hn
        have b1 : cnt c late H b (i0 + c.size * k) ≤ cnt c late H b j := cnt_up j1
        have b2 : cnt c late H b (j + 1) ≤ cnt c late H b (i0 + c.size * (k + 1)) := cnt_up (by rw [Nat.mul_succ]; omega)
        exact .inr (by omega)
      | inr w =>
        have hs2 : Settled late (b + ((i0 + c.size * k : Nat) : Int)) := fun y hy => by have := hs y hy; push_cast; have : 0 ≤ (c.size : Int) * (k : Int) := Int.mul_nonneg (by omega) (by omega); omega
        have := fp_window (b := b) h hH hs2 fun j j1 j2 hn => w ⟨j, j1, j2, hn⟩
        exact .inl (this.up (by rw [Nat.mul_succ]; omega))
theorem fp_all (h : c.G) (hH : Fk c.n H) {i0 : Nat} (hs : Settled late (b + i0)) : FP c late H b (i0 + c.size * (c.n + 1)) := by
  rcases fp_far h hH hs (c.n + 1) with q | q
  · exact q
  · have := cnt_le (c := c) (late := late) (H := H) (b := b) (i0 + c.size * (c.n + 1)); omega
/-! ### the least beat -/
theorem least {p : Nat → Prop} {i : Nat} (h : p i) : ∃ j, p j ∧ ∀ k, k < j → ¬ p k := by
  induction i using Nat.strongRecOn with
  | ind i ih =>
    cases Classical.em (∃ k, k < i ∧ p k) with
    | inl q => obtain ⟨k, hk, hp⟩ := q; exact ih k hk hp
    | inr q => exact ⟨i, h, fun k hk hp => q ⟨k, hk, hp⟩⟩
open Classical in
noncomputable def ear (c : Cw) (late : List St3) (H : List Int) (b : Int) (x : Int) : Option Int :=
  if h : ∃ j, mem c late H b j x ∧ ∀ k, k < j → ¬ mem c late H b k x then some (b + (Classical.choose h : Nat)) else none
theorem ear_some {i : Nat} {x : Int} (h : mem c late H b i x) (hl : ∀ k, k < i → ¬ mem c late H b k x) : ear c late H b x = some (b + i) := by
  have hex : ∃ j, mem c late H b j x ∧ ∀ k, k < j → ¬ mem c late H b k x := ⟨i, h, hl⟩
  unfold ear
  rw [dif_pos hex]
  obtain ⟨h1, h2⟩ := Classical.choose_spec hex
  have : Classical.choose hex = i := by
    rcases Nat.lt_trichotomy (Classical.choose hex) i with q | q | q
    · exact absurd h1 (hl _ q)
    · exact q
    · exact absurd h (h2 _ q)
  rw [this]
theorem ear_none {x : Int} (h : ∀ i, ¬ mem c late H b i x) : ear c late H b x = none := by
  unfold ear
  rw [dif_neg fun ⟨j, q, _⟩ => h j q]
theorem ear_of {x v : Int} (h : ear c late H b x = some v) : ∃ i : Nat, v = b + i ∧ mem c late H b i x ∧ ∀ k, k < i → ¬ mem c late H b k x := by
  unfold ear at h
  split at h
  · rename_i hex
    cases h
    obtain ⟨h1, h2⟩ := Classical.choose_spec hex
    exact ⟨_, rfl, h1, h2⟩
  · cases h
theorem ear_mem {i : Nat} {x : Int} (h : mem c late H b i x) : ∃ j : Nat, j ≤ i ∧ ear c late H b x = some (b + j) ∧ mem c late H b j x := by
  obtain ⟨j, h1, h2⟩ := least (p := fun i => mem c late H b i x) h
  refine ⟨j, ?_, ear_some h1 h2, h1⟩
  cases Nat.lt_or_ge i j with
  | inl q => exact absurd h (h2 i q)
  | inr q => exact q
theorem ear_none_iff {x : Int} : ear c late H b x = none ↔ ∀ i, ¬ mem c late H b i x := by
  constructor
  · intro h i m
    obtain ⟨j, _, e, _⟩ := ear_mem m
    rw [h] at e; cases e
  · exact ear_none
/-- what is found by beat b + i -/
def Rel (c : Cw) (late : List St3) (H : List Int) (b : Int) (i : Nat) (s : Sn) : Prop := KOk c.n s ∧ ∀ x, (mem c late H b i x → s.get x = ear c late H b x) ∧ (¬ mem c late H b i x → s.get x = none)
theorem Rel.some {i : Nat} {s : Sn} (h : Rel c late H b i s) {x : Int} : (s.get x).isSome = true ↔ mem c late H b i x := by
  constructor
  · intro q
    cases Classical.em (mem c late H b i x) with
    | inl m => exact m
    | inr m => rw [(h.2 x).2 m] at q; cases q
  · intro m
    obtain ⟨j, _, e, _⟩ := ear_mem m
    rw [(h.2 x).1 m, e]; rfl
theorem Rel.val {i : Nat} {s : Sn} (h : Rel c late H b i s) {x v : Int} (e : s.get x = .some v) : v ≤ b + i ∧ mem c late H b i x := by
  have m := h.some.mp (by rw [e]; rfl)
  obtain ⟨j, hj, e2, _⟩ := ear_mem m
  rw [(h.2 x).1 m, e2] at e
  cases e
  exact ⟨by omega, m⟩
theorem get_app {s s' : Sn} {x : Int} : Sn.get (s ++ s') x = (s.get x).or (s'.get x) := by
  unfold Sn.get
  rw [List.find?_append]
  cases s.find? fun p => p.1 = x <;> rfl
theorem get_hold {l : List Int} {x v : Int} : (hold l v).get x = if x ∈ l then .some v else none := by
  induction l with
  | nil => rfl
  | cons a l ih =>
    unfold hold Sn.get at ih ⊢
    rw [List.map_cons, List.find?_cons]
    by_cases h : a = x
    · simp [h]
    · have h' : ¬ x = a := fun q => h q.symm
      simp only [h, decide_false, List.mem_cons, h', false_or]
      exact ih
theorem rel_start (hH : Fk c.n H) : Rel c late H b 0 (hold H b) := by
  refine ⟨hold_ok hH b, fun x => ⟨fun m => ?_, fun m => ?_⟩⟩
  · have hm : x ∈ H := m
    rw [get_hold, if_pos hm, ear_some (i := 0) m (fun k hk => absurd hk (Nat.not_lt_zero k))]
    simp
  · have hm : x ∉ H := m
    rw [get_hold, if_neg hm]
theorem rel_step (hH : Fk c.n H) {i : Nat} {s : Sn} (h : Rel c late H b i s) {F : List Int} (nd : F.Nodup) (hF : ∀ x, x ∈ F ↔ mem c late H b (i + 1) x ∧ ¬ mem c late H b i x) : Rel c late H b (i + 1) (s ++ hold F (b + i + 1)) := by
  refine ⟨⟨?_, fun p hp => ?_⟩, fun x => ⟨fun m => ?_, fun m => ?_⟩⟩
  · rw [List.map_append, List.nodup_append]
    have e : (hold F (b + i + 1)).map (·.1) = F := by unfold hold; rw [List.map_map]; exact List.map_id _
    refine ⟨h.1.1, by rw [e]; exact nd, fun x hx y hy q => ?_⟩
    rw [e] at hy
    subst q
    have := ((hF x).mp hy).2
    have hn := (h.2 x).2 this
    rw [get_none] at hn
    exact hn hx
  · rcases List.mem_append.mp hp with hp | hp
    · exact h.1.2 p hp
    · obtain ⟨a, ha, rfl⟩ := List.mem_map.mp hp
      exact mem_fk hH ((hF a).mp ha).1
  · rw [get_app]
    cases Classical.em (mem c late H b i x) with
    | inl q =>
      obtain ⟨j, _, e, _⟩ := ear_mem q
      rw [(h.2 x).1 q, e]; rfl
    | inr q =>
      rw [(h.2 x).2 q, get_hold, if_pos ((hF x).mpr ⟨m, q⟩)]
      rw [ear_some m (fun k hk mk => q (mem_up (by omega) mk))]
      simp only [Option.none_or, Option.some.injEq]
      push_cast
      omega
  · rw [get_app, (h.2 x).2 (fun q => m (.inl q)), get_hold, if_neg (fun q => m ((hF x).mp q).1)]; rfl
theorem rel_end {i : Nat} {s : Sn} (h : Rel c late H b i s) (hf : FP c late H b i) (x : Int) : s.get x = ear c late H b x := by
  cases Classical.em (mem c late H b i x) with
  | inl m => exact (h.2 x).1 m
  | inr m => rw [(h.2 x).2 m, ear_none fun j mj => m (hf j x mj)]
end N0

set_option maxRecDepth 100000
set_option maxHeartbeats 1000000
/-! ### spread, earliest -/
namespace N0
open PySem Hw Pg M01 Sv
variable {c : Cw} {late : List St3} {H : List Int} {b : Int}
@[simp] theorem eDI0_s {env : En} {S : Sto} : eDI0 env S = .ok (.dI []) S := (rfl)
@[simp] theorem addI_s {i j : Int} : pAddI (.int i) (.int j) = some (.int (i + j)) := (rfl)
theorem dhas_app (k : List (Int × PV)) (a x : Int) (v : PV) : dhas (k ++ [(a, v)]) x = (dhas k x || decide (a = x)) := by
  unfold dhas; rw [List.any_append]; simp
theorem dput_new {k : List (Int × PV)} {a : Int} {v : PV} (h : dhas k a = false) : dput k a v = k ++ [(a, v)] := by
  unfold dput; rw [h]; simp
theorem dc_filt {g : Tgt} {cc k e : Ex} {env0 : En} {S : Sto} (p : Int → Bool) (val : Int → PV) : ∀ (l : List Int) (acc : List (Int × PV)), (∀ a ∈ l, ∃ env1, g (.int a) env0 = some env1 ∧ cc env1 S = .ok (.bl (p a)) S ∧ (p a = true → k env1 S = .ok (.int a) S ∧ e env1 S = .ok (val a) S)) →
    (∀ a ∈ l, dhas acc a = false) → l.Nodup → dcLoop g cc k e env0 (l.map .int) acc S = .ok (acc ++ (l.filter p).map fun a => (a, val a)) S
  | [], acc, _, _, _ => by simp [dcLoop]
  | a :: l, acc, h, hn, nd => by
    obtain ⟨e1, h1, h2, h3⟩ := h a (by simp)
    have nd' := List.nodup_cons.mp nd
    cases hp : p a with
    | false =>
      rw [hp] at h2
      simp only [List.map_cons, dcLoop, h1, h2, bind_ok]
      rw [dc_filt p val l acc (fun x hx => h x (by simp [hx])) (fun x hx => hn x (by simp [hx])) nd'.2, List.filter_cons, hp]
      simp
    | true =>
      rw [hp] at h2
      obtain ⟨h4, h5⟩ := h3 hp
      simp only [List.map_cons, dcLoop, h1, h2, bind_ok, h4, h5]
      rw [dput_new (hn a (by simp)), dc_filt p val l _ (fun x hx => h x (by simp [hx])) (fun x hx => ?_) nd'.2, List.filter_cons, hp]
      · simp
      · rw [dhas_app, hn x (by simp [hx])]
        have : ¬ a = x := fun q => nd'.1 (by rw [q]; exact hx)
        simp [this]
theorem edc_filt {it : Itx} {vs : List Nat} {g : Tgt} {cc k e : Ex} {env env0 : En} {S : Sto} (p : Int → Bool) (val : Int → PV) (l : List Int) (hi : it env S = .ok (l.map .int) S) (hw : wipeE vs env = some env0) (hl : l.length ≤ 1000000) (nd : l.Nodup)
    (hb : ∀ a ∈ l, ∃ env1, g (.int a) env0 = some env1 ∧ cc env1 S = .ok (.bl (p a)) S ∧ (p a = true → k env1 S = .ok (.int a) S ∧ e env1 S = .ok (val a) S)) : eDC it vs g cc k e env S = .ok (.dI ((l.filter p).map fun a => (a, val a))) S := by
  have h := dc_filt (g := g) (cc := cc) (k := k) (e := e) (env0 := env0) (S := S) p val l [] hb (fun _ _ => rfl) nd
  unfold eDC
  rw [hi]
  simp only [bind_ok, hw]
  rw [if_pos (by simpa using hl), h]
  simp
def eT (l : List Int) : List (Int × PV) := l.map fun x => (x, .bl true)
def addN (acc G : List Int) : List Int := G.foldl (fun a x => if x ∈ a then a else a ++ [x]) acc
theorem dhas_eT (l : List Int) (x : Int) : dhas (eT l) x = decide (x ∈ l) := by
  unfold dhas eT
  rw [List.any_map]
  induction l with
  | nil => rfl
  | cons a l ih =>
    rw [List.any_cons, ih]
    by_cases h : a = x
    · simp [h]
    · have h' : ¬ x = a := fun q => h q.symm
      simp [h, h']
theorem put_eT (l : List Int) (x : Int) : dput (eT l) x (.bl true) = eT (if x ∈ l then l else l ++ [x]) := by
  unfold dput
  rw [dhas_eT]
  by_cases h : x ∈ l
  · rw [if_pos (by simpa using h), if_pos h]
    unfold eT
    rw [List.map_map]
    refine List.map_congr_left fun a ha => ?_
    simp only [Function.comp]
    split <;> rfl
  · rw [if_neg (by simpa using h), if_neg h]
    simp [eT]
theorem merge_eT : ∀ (G acc : List Int), mergeD (eT acc) (eT G) = eT (addN acc G)
  | [], acc => rfl
  | x :: G, acc => by
    have ih := merge_eT G (if x ∈ acc then acc else acc ++ [x])
    unfold mergeD addN at ih ⊢
    rw [show eT (x :: G) = (x, .bl true) :: eT G from rfl, List.foldl_cons, List.foldl_cons, put_eT]
    exact ih
theorem addN_mem : ∀ (G acc : List Int) (y : Int), y ∈ addN acc G ↔ y ∈ acc ∨ y ∈ G
  | [], acc, y => by simp [addN]
  | x :: G, acc, y => by
    have ih := addN_mem G (if x ∈ acc then acc else acc ++ [x]) y
    unfold addN at ih ⊢
    rw [List.foldl_cons, ih]
    by_cases h : x ∈ acc
    · rw [if_pos h]
      simp only [List.mem_cons]
      constructor
      · rintro (q | q)
        · exact .inl q
        · exact .inr (.inr q)
      · rintro (q | q | q)
        · exact .inl q
        · exact .inl (by rw [q]; exact h)
        · exact .inr q
    · rw [if_neg h]
      simp only [List.mem_append, List.mem_cons, List.not_mem_nil, or_false]
      constructor
      · rintro ((q | q) | q)
        · exact .inl q
        · exact .inr (.inl q)
        · exact .inr (.inr q)
      · rintro (q | q | q)
        · exact .inl (.inl q)
        · exact .inl (.inr q)
        · exact .inr q
theorem addN_nd : ∀ (G acc : List Int), acc.Nodup → (addN acc G).Nodup
  | [], acc, h => h
  | x :: G, acc, h => by
    have ih := addN_nd G (if x ∈ acc then acc else acc ++ [x])
    unfold addN at ih ⊢
    rw [List.foldl_cons]
    refine ih ?_
    by_cases q : x ∈ acc
    · rw [if_pos q]; exact h
    · rw [if_neg q, List.nodup_append]
      exact ⟨h, by simp, fun a ha b hb e => q (by simp at hb; rw [← hb, ← e]; exact ha)⟩
theorem E_nd {t b : Int} : (c.E late t b).Nodup := by
  unfold Cw.E earsN
  refine List.pairwise_map.mpr (List.Pairwise.imp (fun {a b} h => ?_) (List.Pairwise.filter _ List.nodup_range))
  omega
theorem E_len (h : c.G) {t b : Int} : (c.E late t b).length ≤ 8 := by
  have := nodup_len (E_nd (c := c) (late := late) (t := t) (b := b)) fun x hx => E_ok hx
  have := G_n h
  omega
theorem dhas_get (s : Sn) (x : Int) : dhas (eD s) x = (s.get x).isSome := dhas_eD x s
theorem merge_hold (v : Int) : ∀ (F : List Int) (s : Sn), (∀ x ∈ F, s.get x = none) → F.Nodup → mergeD (eD s) (eD (hold F v)) = eD (s ++ hold F v)
  | [], s, _, _ => by simp [hold, eD, mergeD]
  | x :: F, s, h, nd => by
    have nd' := List.nodup_cons.mp nd
    have hx := h x (by simp)
    have ih := merge_hold v F (s ++ [(x, v)]) (fun y hy => by
      have hne : ¬ x = y := fun q => nd'.1 (by rw [q]; exact hy)
      rw [get_app, h y (by simp [hy])]
      unfold Sn.get
      simp [hne]) nd'.2
    unfold mergeD at ih ⊢
    rw [show eD (hold (x :: F) v) = (x, .int v) :: eD (hold F v) from rfl, List.foldl_cons, put_eD (by rw [hx]; rfl), ih]
    simp [hold]
theorem ne2_eT (l : List Int) : pNe2 (.dI (eT l)) (.dI []) = some (.bl (!l.isEmpty)) := by
  show (if ((eT l).all fun p => flatP p.2) && (([] : List (Int × PV)).all fun p => flatP p.2) then some (PV.bl (!dEqB (eT l) [])) else none) = _
  have : ((eT l).all fun p => flatP p.2) = true := by unfold eT; rw [List.all_map]; simp [flatP]
  rw [this]
  cases l <;> rfl
@[simp] theorem eT_len (l : List Int) : (eT l).length = l.length := by simp [eT]
theorem keys_eD (s : Sn) : ((eD s).map fun p => PV.int p.1) = (s.map (·.1)).map .int := by simp [eD]
theorem keys_eT (l : List Int) : ((eT l).map fun p => PV.int p.1) = l.map .int := by simp [eT]
abbrev spE (c : Cw) (H : List Int) (b : Int) (late : List St3) (x4 : SV) (still beat M : Int) (x9 x10 : SV) : En := [.v (eW c), .v (eI H), .v (.int b), .v (eLate late), x4, .v (.int still), .v (.int beat), .v (.int M), .v (.int (c.size : Int)), x9, x10, .un]
/-- one beat's tellers -/
theorem sp_tell (S : Sto) (h : c.G) (hH : Fk c.n H) {i : Nat} {s : Sn} (hr : Rel c late H b i s) (still M : Int) (x10 : SV) (n10 : nlk x10) :
    ∃ F x10', F.Nodup ∧ nlk x10' ∧ (∀ x, x ∈ F ↔ mem c late H b (i + 1) x ∧ ¬ mem c late H b i x) ∧
    forLoop (tgN 10) (sSeq (sIf (eAnd (eP2 pLe (pA (eP2 pIx2 (pN 4) (pN 10))) (pN 6)) (eCall f_may_tell (esCons (eVar 0) (esCons (eVar 10) (esCons (eVar 6) (esCons (eVar 3) (esNil))))))) (sSeq (sIor 9 (eDC (iP (pA (eCall f_ears (esCons (eVar 0) (esCons (eVar 10) (esCons (eVar 6) (esCons (eVar 3) (esNil)))))))) [11] (tgN 11) (eP2 pNotIn2 (pN 11) (pN 4)) (eVar 11) (eC (.bl true)))) (sNil)) (sNil)) (sNil))
      ((s.map (·.1)).map .int) (spE c H b late (.lk (.dI (eD s))) still (b + i) M (.own (.dI [])) x10) S = .nx (spE c H b late (.lk (.dI (eD s))) still (b + i) M (.own (.dI (eT F))) x10') S := by
  have hn := G_n h
  obtain ⟨env', h1, F, x10', nd, n10', hF, rfl⟩ := for_pre (g := tgN 10) (S := S) (body := (sSeq (sIf (eAnd (eP2 pLe (pA (eP2 pIx2 (pN 4) (pN 10))) (pN 6)) (eCall f_may_tell (esCons (eVar 0) (esCons (eVar 10) (esCons (eVar 6) (esCons (eVar 3) (esNil))))))) (sSeq (sIor 9 (eDC (iP (pA (eCall f_ears (esCons (eVar 0) (esCons (eVar 10) (esCons (eVar 6) (esCons (eVar 3) (esNil)))))))) [11] (tgN 11) (eP2 pNotIn2 (pN 11) (pN 4)) (eVar 11) (eC (.bl true)))) (sNil)) (sNil)) (sNil))) PV.int
    (fun p env => ∃ F x10, F.Nodup ∧ nlk x10 ∧ (∀ x, x ∈ F ↔ s.get x = none ∧ ∃ t ∈ p, c.L late t (b + i) = true ∧ x ∈ c.E late t (b + i)) ∧ env = spE c H b late (.lk (.dI (eD s))) still (b + i) M (.own (.dI (eT F))) x10)
    (s.map (·.1)) [] (spE c H b late (.lk (.dI (eD s))) still (b + i) M (.own (.dI [])) x10)
    (fun t p q env e => by
      rintro ⟨F, y10, nd, m10, hF, rfl⟩
      have ht : t ∈ s.map (·.1) := by rw [show s.map (·.1) = p ++ t :: q from e]; simp
      have hs : (s.get t).isSome = true := by
        cases z : s.get t with
        | none => exact absurd ht (get_none.mp z)
        | some v => rfl
      obtain ⟨v, hv⟩ := Option.isSome_iff_exists.mp hs
      obtain ⟨v1, mt⟩ := hr.val hv
      have hk := mem_fk hH mt
      refine ⟨spE c H b late (.lk (.dI (eD s))) still (b + i) M (.own (.dI (eT F))) (.v (.int t)), ?_⟩
      have hFl : F.length ≤ c.n := nodup_len nd fun x hx => by
        obtain ⟨_, t', _, _, hE⟩ := (hF x).mp hx
        exact E_ok hE
      by_cases hL : c.L late t (b + i) = true
      · have hdc := edc_filt (it := iP (pA (eCall f_ears (esCons (eVar 0) (esCons (eVar 10) (esCons (eVar 6) (esCons (eVar 3) (esNil)))))))) (vs := [11]) (g := tgN 11) (cc := eP2 pNotIn2 (pN 11) (pN 4)) (k := eVar 11) (e := eC (.bl true))
          (env := spE c H b late (.lk (.dI (eD s))) still (b + i) M (.own (.dI (eT F))) (.v (.int t))) (env0 := spE c H b late (.lk (.dI (eD s))) still (b + i) M (.own (.dI (eT F))) (.v (.int t))) (S := S)
          (fun x => (s.get x).isNone) (fun _ => .bl true) (c.E late t (b + i)) (by simp [ev_E S h (b + i) hk.1 hk.2]) (by rfl) (by have := E_len (late := late) (t := t) (b := b + i) h; omega) E_nd (fun x hx => ⟨_, rfl, by simp [in2_eD], fun _ => ⟨by simp, by simp⟩⟩)
        have hG : ((c.E late t (b + i)).filter fun x => (s.get x).isNone).length ≤ 1000000 := Nat.le_trans (List.length_filter_le _ _) (by have := E_len (late := late) (t := t) (b := b + i) h; omega)
        have hmg := merge_eT ((c.E late t (b + i)).filter fun x => (s.get x).isNone) F
        rw [show (((c.E late t (b + i)).filter fun x => (s.get x).isNone).map fun a => (a, PV.bl true)) = eT ((c.E late t (b + i)).filter fun x => (s.get x).isNone) from rfl] at hdc
        refine ⟨spE c H b late (.lk (.dI (eD s))) still (b + i) M (.own (.dI (eT (addN F ((c.E late t (b + i)).filter fun x => (s.get x).isNone))))) (.v (.int t)), by simp [spE, setS_nlk m10], ?_, _, _, addN_nd _ _ nd, by simp [nlk], fun x => ?_, rfl⟩
        · have hF1 : F.length ≤ 1000000 := by omega
          simp [spE, ix2_eD hv, v1, ev_L S h (b + i) hk.1 hk.2, hL, ↓hdc, hF1, hG, hmg]
        · rw [addN_mem, hF, List.mem_filter]
          constructor
          · rintro (⟨a, t', ht', hL', hE'⟩ | ⟨a, a2⟩)
            · exact ⟨a, t', by simp [ht'], hL', hE'⟩
            · exact ⟨by simpa using a2, t, by simp, hL, a⟩
          · rintro ⟨a, t', ht', hL', hE'⟩
            rcases List.mem_append.mp ht' with ht' | ht'
            · exact .inl ⟨a, t', ht', hL', hE'⟩
            · simp only [List.mem_singleton] at ht'
              subst ht'
              exact .inr ⟨hE', by simp [a]⟩
      · refine ⟨spE c H b late (.lk (.dI (eD s))) still (b + i) M (.own (.dI (eT F))) (.v (.int t)), by simp [spE, setS_nlk m10], ?_, F, _, nd, by simp [nlk], fun x => ?_, rfl⟩
        · have hL' : c.L late t (b + i) = false := by simpa using hL
          simp [spE, ix2_eD hv, v1, ev_L S h (b + i) hk.1 hk.2, hL']
        · rw [hF]
          constructor
          · rintro ⟨a, t', ht', hL', hE'⟩
            exact ⟨a, t', by simp [ht'], hL', hE'⟩
          · rintro ⟨a, t', ht', hL', hE'⟩
            rcases List.mem_append.mp ht' with ht' | ht'
            · exact ⟨a, t', ht', hL', hE'⟩
            · simp only [List.mem_singleton] at ht'
              subst ht'
              exact absurd hL' hL)
    ⟨[], x10, by simp, n10, fun x => by simp, rfl⟩
  refine ⟨F, x10', nd, n10', fun x => ?_, h1⟩
  rw [hF]
  simp only [List.nil_append]
  constructor
  · rintro ⟨a, t, ht, hL, hE⟩
    have ms : mem c late H b i t := hr.some.mp (by
      cases z : s.get t with
      | none => exact absurd ht (get_none.mp z)
      | some v => rfl)
    exact ⟨.inr ⟨t, ms, hL, hE⟩, fun m => by have := hr.some.mpr m; rw [a] at this; cases this⟩
  · rintro ⟨m1, m2⟩
    rcases m1 with m1 | ⟨t, mt, hL, hE⟩
    · exact absurd m1 m2
    · refine ⟨(hr.2 x).2 m2, t, ?_, hL, hE⟩
      have := hr.some.mpr mt
      cases Classical.em (t ∈ s.map (·.1)) with
      | inl q => exact q
      | inr q => rw [get_none.mpr q] at this; cases this
end N0

set_option maxRecDepth 100000
set_option maxHeartbeats 1000000
/-! ### spread, earliest: the walk -/
namespace N0
open PySem Hw Pg M01 Sv
variable {c : Cw} {late : List St3} {H : List Int} {b : Int}
def spBody : Sm := (sSeq (sOwn 9 (eDI0)) (sSeq (sLk 4 (sFor (iP (pN 4)) (tgN 10) (sSeq (sIf (eAnd (eP2 pLe (pA (eP2 pIx2 (pN 4) (pN 10))) (pN 6)) (eCall f_may_tell (esCons (eVar 0) (esCons (eVar 10) (esCons (eVar 6) (esCons (eVar 3) (esNil))))))) (sSeq (sIor 9 (eDC (iP (pA (eCall f_ears (esCons (eVar 0) (esCons (eVar 10) (esCons (eVar 6) (esCons (eVar 3) (esNil)))))))) [11] (tgN 11) (eP2 pNotIn2 (pN 11) (pN 4)) (eVar 11) (eC (.bl true)))) (sNil)) (sNil)) (sNil)))) (sSeq (sLk 9 (sIor 4 (eDC (iP (pN 9)) [11] (tgN 11) (eYes) (eVar 11) (eP2 pAdd (pN 6) (pA (eC (.int 1))))))) (sSeq (sPut (tgN 5) (eIf (eP2 pNe2 (pN 9) (pA (eDI0))) (eC (.int 0)) (eP2 pAdd (pN 5) (pA (eC (.int 1)))))) (sSeq (sAug 6 pAddI (eC (.int 1))) (sNil))))))
theorem edc_all {it : Itx} {vs : List Nat} {g : Tgt} {k e : Ex} {env env0 : En} {S : Sto} (val : Int → PV) (l : List Int) (hi : it env S = .ok (l.map .int) S) (hw : wipeE vs env = some env0) (hl : l.length ≤ 1000000) (nd : l.Nodup)
    (hb : ∀ a ∈ l, ∃ env1, g (.int a) env0 = some env1 ∧ k env1 S = .ok (.int a) S ∧ e env1 S = .ok (val a) S) : eDC it vs g eYes k e env S = .ok (.dI (l.map fun a => (a, val a))) S := by
  have := edc_filt (cc := eYes) (it := it) (vs := vs) (g := g) (k := k) (e := e) (env := env) (env0 := env0) (S := S) (fun _ => true) val l hi hw hl nd (fun a ha => by
    obtain ⟨e1, h1, h2, h3⟩ := hb a ha
    exact ⟨e1, h1, rfl, fun _ => ⟨h2, h3⟩⟩)
  rw [List.filter_eq_self.mpr (fun _ _ => rfl)] at this
  exact this
theorem keys_eD2 (s : Sn) : ((eD s).map fun p => PV.int p.1) = s.map fun p => .int p.1 := by rw [keys_eD, List.map_map]; rfl
theorem sp_body (S : Sto) (h : c.G) (hH : Fk c.n H) {i : Nat} {s : Sn} (hr : Rel c late H b i s) (still M : Int) (x9 x10 : SV) (n9 : nlk x9) (n10 : nlk x10) :
    ∃ F x10', F.Nodup ∧ nlk x10' ∧ (∀ x, x ∈ F ↔ mem c late H b (i + 1) x ∧ ¬ mem c late H b i x) ∧
    spBody (spE c H b late (.own (.dI (eD s))) still (b + i) M x9 x10) S = .nx (spE c H b late (.own (.dI (eD (s ++ hold F (b + i + 1))))) (if F = [] then still + 1 else 0) (b + i + 1) M (.own (.dI (eT F))) x10') S := by
  have hn := G_n h
  obtain ⟨F, x10', nd, m10, hF, hl⟩ := sp_tell S h hH hr still M x10 n10
  refine ⟨F, x10', nd, m10, hF, ?_⟩
  have hs : s.length ≤ 1000000 := by have := hr.1.len; omega
  have hFl : F.length ≤ c.n := nodup_len nd fun x hx => mem_fk hH ((hF x).mp hx).1
  have hF1 : F.length ≤ 1000000 := by omega
  have hF2 : (hold F (b + i + 1)).length ≤ 1000000 := by unfold hold; simpa using hF1
  have hd : eDC (iP (pN 9)) [11] (tgN 11) eYes (eVar 11) (eP2 pAdd (pN 6) (pA (eC (.int 1)))) (spE c H b late (.own (.dI (eD s))) still (b + i) M (.lk (.dI (eT F))) x10') S = .ok (.dI (eD (hold F (b + i + 1)))) S := by
    have := edc_all (it := iP (pN 9)) (vs := [11]) (g := tgN 11) (k := eVar 11) (e := eP2 pAdd (pN 6) (pA (eC (.int 1)))) (env := spE c H b late (.own (.dI (eD s))) still (b + i) M (.lk (.dI (eT F))) x10') (env0 := spE c H b late (.own (.dI (eD s))) still (b + i) M (.lk (.dI (eT F))) x10') (S := S) (fun _ => .int (b + i + 1)) F
      (by simp [spE, keys_eT]) rfl hF1 nd (fun a ha => ⟨_, rfl, by simp, by simp⟩)
    rw [this]
    simp [eD, hold]
  have hm := merge_hold (b + i + 1) F s (fun x hx => (hr.2 x).2 ((hF x).mp hx).2) nd
  rw [show (s.map (·.1)).map PV.int = s.map fun p => .int p.1 by rw [List.map_map]; rfl] at hl
  simp only [spE] at hl hd ⊢
  unfold spBody
  simp [setS_nlk n9, keys_eD2, ↓hl, ↓hd, hs, hF2, hm, ne2_eT]
  cases F <;> simp
end N0

set_option maxRecDepth 100000
set_option maxHeartbeats 1000000
namespace N0
open PySem Hw Pg M01 Sv
variable {c : Cw} {late : List St3} {H : List Int} {b : Int}
def NoNew (c : Cw) (late : List St3) (H : List Int) (b : Int) (i still : Nat) : Prop := still ≤ i ∧ ∀ k, i - still ≤ k → k < i → ¬ New c late H b k
theorem sp_while (S : Sto) (h : c.G) (hH : Fk c.n H) (M : Int) (hM : Settled late M) (m0 : b ≤ M) (m1 : M ≤ b + 100000) :
    ∃ env S', whileLoop (eOr (eP2 pLt (pN 5) (pN 8)) (eP2 pLt (pN 6) (pA (eP2 pAdd (pN 7) (pN 8))))) spBody fuel (spE c H b late (.own (.dI (eD (hold H b)))) 0 b M .un .un) S = .nx env S' ∧
      (S' = S ∧ ∃ s still beat x9 x10, env = spE c H b late (.own (.dI (eD s))) still beat M x9 x10 ∧ KOk c.n s ∧ ∀ x, s.get x = ear c late H b x) := by
  have hn := G_n h
  have hz := size_ok h
  refine siWhile (fun m env S' => S' = S ∧ ∃ (i still : Nat) (s : Sn) (x9 x10 : SV), nlk x9 ∧ nlk x10 ∧ Rel c late H b i s ∧ NoNew c late H b i still ∧ still ≤ i ∧ env = spE c H b late (.own (.dI (eD s))) (still : Int) (b + i) M x9 x10 ∧
    m = (c.n - s.length) * 61 + (60 - still) + (M + 60 - (b + i)).toNat) ?_ fuel ((c.n - (hold H b).length) * 61 + (60 - 0) + (M + 60 - (b + (0 : Nat))).toNat) _ S ?_ ⟨rfl, 0, 0, hold H b, .un, .un, by simp [nlk], by simp [nlk], rel_start hH, ⟨Nat.le_refl _, fun k _ hk => absurd hk (Nat.not_lt_zero k)⟩, Nat.le_refl _, by simp [spE], rfl⟩
  · rintro m env S' ⟨rfl, i, still, s, x9, x10, n9, n10, hr, hno, hle, rfl, rfl⟩
    refine ⟨decide ((still : Int) < c.size) || decide (b + i < M + c.size), ?_, ?_⟩
    · by_cases q : (still : Int) < c.size <;> simp [spE, q]
    · have hsl : s.length ≤ c.n := hr.1.len
      cases hq : (decide ((still : Int) < c.size) || decide (b + i < M + c.size)) with
      | true =>
        rw [if_pos rfl]
        obtain ⟨F, y10, nd, m10, hF, he⟩ := sp_body (S := S') h hH hr (still : Int) M x9 x10 n9 n10
        have hr2 := rel_step hH hr nd hF
        have hsl2 := hr2.1.len
        refine ⟨_, _, he, ?_⟩
        refine ⟨_, ?_, rfl, i + 1, if F = [] then still + 1 else 0, s ++ hold F (b + i + 1), .own (.dI (eT F)), y10, by simp [nlk], m10, hr2, ?_, ?_, ?_, rfl⟩
        · cases F with
          | nil =>
            simp only [hold, List.map_nil, List.append_nil, if_true]
            simp only [Bool.or_eq_true, decide_eq_true_eq] at hq
            push_cast
            have q1 : (M + 60 - (b + ((i : Int) + 1))).toNat ≤ (M + 60 - (b + i)).toNat := by omega
            rcases hq with hq | hq
            · have : 60 - (still + 1) < 60 - still := by omega
              omega
            · have : (M + 60 - (b + ((i : Int) + 1))).toNat < (M + 60 - (b + i)).toNat := by omega
              omega
          | cons a F =>
            have e : (s ++ hold (a :: F) (b + i + 1)).length = s.length + (F.length + 1) := by simp [hold]
            rw [e] at hsl2 ⊢
            have q1 : (M + 60 - (b + ((i + 1 : Nat) : Int))).toNat ≤ (M + 60 - (b + i)).toNat := by push_cast; omega
            rw [if_neg (by simp)]
            have q2 : c.n - (s.length + (F.length + 1)) + 1 ≤ c.n - s.length := by omega
            have q3 := Nat.mul_le_mul_right 61 q2
            rw [Nat.add_mul] at q3
            omega
        · by_cases hf : F = []
          · rw [if_pos hf]
            refine ⟨by omega, fun k k1 k2 => ?_⟩
            by_cases hk : k = i
            · subst hk
              rintro ⟨x, p, q⟩
              have := (hF x).mpr ⟨p, q⟩
              rw [hf] at this; cases this
            · exact hno.2 k (by omega) (by omega)
          · rw [if_neg hf]
            exact ⟨Nat.zero_le _, fun k k1 k2 => by omega⟩
        · split <;> omega
        · simp only [spE]
          have e1 : (if F = [] then (still : Int) + 1 else 0) = ((if F = [] then still + 1 else 0 : Nat) : Int) := by split <;> simp
          have e2 : b + (i : Int) + 1 = b + ((i + 1 : Nat) : Int) := by push_cast; omega
          rw [e1, ← e2]
      | false =>
        rw [if_neg (by simp)]
        simp only [Bool.or_eq_false_iff, decide_eq_false_iff_not] at hq
        refine ⟨rfl, s, still, b + i, x9, x10, rfl, hr.1, ?_⟩
        have hfp : FP c late H b (i - c.size) := by
          refine fp_window h hH (fun y hy => ?_) fun k k1 k2 => hno.2 k (by omega) (by omega)
          have := hM y hy
          omega
        exact rel_end hr (hfp.up (by omega))
  · unfold fuel
    have := Nat.mul_le_mul_right 61 (Nat.sub_le c.n (hold H b).length)
    omega
theorem sWhile_s {ce : Ex} {s : Sm} {env : En} {S : Sto} : sWhile ce s env S = whileLoop ce s fuel env S := rfl
/-- the last beat at which somebody becomes late -/
theorem maxlate (late : List St3) (b : Int) : pMaxL (.lst ([.int b] ++ late.map fun y => .int y.2.1)) = some (.int (maxL (b :: late.map fun y => y.2.1))) := by
  have h : intsOf ([.int b] ++ late.map fun y => .int y.2.1) = some (b :: late.map fun y => y.2.1) := by
    rw [show ([PV.int b] ++ late.map fun y => PV.int y.2.1) = (b :: late.map fun y => y.2.1).map .int by simp]
    exact intsOf_map _
  unfold pMaxL
  simp only [h]
theorem ev_spread (S : Sto) (h : c.G) (hH : Fk c.n H) (g : GoodL c.n late) (hs : Settled late (b + 100000)) : ∃ s, f_spread [eW c, eI H, .int b, eLate late] S = .ok (.dI (eD s)) S ∧ KOk c.n s ∧ ∀ x, s.get x = ear c late H b x := by
  have hn := G_n h
  obtain ⟨m1, m2⟩ := maxL_spec (b :: late.map fun y => y.2.1) (by simp)
  have hM : Settled late (maxL (b :: late.map fun y => y.2.1)) := fun y hy => m2 _ (by simp; exact .inr ⟨_, _, hy⟩)
  have hb : b ≤ maxL (b :: late.map fun y => y.2.1) := m2 b (by simp)
  have hb2 : maxL (b :: late.map fun y => y.2.1) ≤ b + 100000 := by
    rcases List.mem_cons.mp m1 with e | e
    · omega
    · obtain ⟨y, hy, e⟩ := List.mem_map.mp e
      have := hs y hy
      omega
  obtain ⟨env, S', hw, rfl, s, still, beat, x9, x10, rfl, hk, hg⟩ := sp_while S h hH _ hM hb hb2
  refine ⟨s, ?_, hk, hg⟩
  have hH1 : H.length ≤ 1000000 := by have := hH.len; omega
  have hd := edc_all (it := iP (pN 1)) (vs := [11]) (g := tgN 11) (k := eVar 11) (e := eVar 2) (env := [.v (eW c), .v (eI H), .v (.int b), .v (eLate late), .un, .un, .un, .un, .un, .un, .un, .un]) (env0 := [.v (eW c), .v (eI H), .v (.int b), .v (eLate late), .un, .un, .un, .un, .un, .un, .un, .un]) (S := S') (fun _ => .int b) H
    (by simp [eI]) rfl hH1 hH.nd (fun a ha => ⟨_, rfl, by simp, by simp⟩)
  have hl := elc1 (it := iP (pN 3)) (vs := [11]) (g := tgN 11) (e := eP2 pIdx (pN 11) (pA (eC (.int 1)))) (env := [.v (eW c), .v (eI H), .v (.int b), .v (eLate late), .own (.dI (eD (hold H b))), .v (.int 0), .v (.int b), .un, .un, .un, .un, .un]) (env0 := [.v (eW c), .v (eI H), .v (.int b), .v (eLate late), .own (.dI (eD (hold H b))), .v (.int 0), .v (.int b), .un, .un, .un, .un, .un]) (S := S') late eS (fun y => .int y.2.1)
    (by simp [eLate]) rfl (by have := g.1; omega) (fun a ha => ⟨_, rfl, by simp [eS]⟩)
  have hm := maxlate late b
  have hho : (H.map fun a => (a, PV.int b)) = eD (hold H b) := by simp [eD, hold]
  rw [hho] at hd
  have hr := M01.ev_round_of S' h
  rw [f_spread, run_s]
  change fin _ (d_spread [.v (eW c), .v (eI H), .v (.int b), .v (eLate late), .un, .un, .un, .un, .un, .un, .un, .un] S') = _
  have hl1 : late.length ≤ 1000000 := by have := g.1; omega
  simp only [spE, spBody] at hw
  simp only [List.singleton_append] at hm
  have hr : f_round_of [.lst [eW c]] S' = .ok (.int (c.size : Int)) S' := hr
  have hadd : pAdd (.lst [.int b]) (.lst (late.map fun y => .int y.2.1)) = some (.lst (.int b :: late.map fun y => .int y.2.1)) := add_ll (by have := g.1; simp; omega)
  simp [d_spread, ↓hd, ↓hl, hadd, hm, hr, sWhile_s, hw]
end N0

set_option maxRecDepth 100000
set_option maxHeartbeats 1000000
/-! ### the law's own spreading -/
namespace N0
open PySem Hw Pg M01 Sv
variable {c : Cw} {late : List St3} {H : List Int} {b : Int}
def kLkE (o : Option SV) (i : Nat) (d : Ex) (env : En) (S : Sto) : R PV := match o with
  | some (.own x) => if isDk x then (d (env.set i (.lk x)) S).noex else .bad
  | _ => .bad
@[simp] theorem kLkE_s {kvs : List (Int × PV)} {i : Nat} {d : Ex} {env : En} {S : Sto} : kLkE (some (.own (.dI kvs))) i d env S = (d (env.set i (.lk (.dI kvs))) S).noex := rfl
@[simp] theorem eLk_s {i : Nat} {d : Ex} {env : En} {S : Sto} : eLk i d env S = kLkE env[i]? i d env S := rfl
theorem get_put {s : Sn} {k v x : Int} : (s.put k v).get x = (s.get x).or (if k = x then some v else none) := by
  unfold Sn.put
  cases h : s.get k with
  | none =>
    simp only [Option.isSome_none, Bool.false_eq_true, if_false]
    rw [get_app]
    unfold Sn.get
    simp only [List.find?_cons]
    by_cases q : k = x <;> simp [q]
  | some w =>
    simp only [Option.isSome_some, if_true]
    by_cases q : k = x
    · subst q; rw [h]; rfl
    · simp [q]
theorem get_puts {v x : Int} : ∀ (l : List Int) (s : Sn), (l.foldl (fun s y => s.put y v) s).get x = (s.get x).or (if x ∈ l then some v else none)
  | [], s => by simp
  | y :: l, s => by
    rw [List.foldl_cons, get_puts l, get_put]
    by_cases q : y = x
    · subst q
      cases s.get y <;> simp
    · have q' : ¬ x = y := fun e => q e.symm
      simp [q, q']
theorem get_tell {s : Sn} {t x : Int} : (tell c late t b s).get x = (s.get x).or (if x ∈ c.E late t b then some (b + 1) else none) := get_puts _ _
def tel1 (c : Cw) (late : List St3) (b : Int) (s : Sn) (t : Int) : Sn := if c.L late t b = true then tell c late t b s else s
theorem tels_ok : ∀ (l : List Int) (s : Sn), KOk c.n s → KOk c.n (l.foldl (tel1 c late b) s)
  | [], s, h => h
  | t :: l, s, h => tels_ok l _ (by unfold tel1; split <;> first | exact h.tell t b | exact h)
theorem get_tels {x : Int} : ∀ (l : List Int) (s : Sn), ((∃ t ∈ l, c.L late t b = true ∧ x ∈ c.E late t b) → (l.foldl (tel1 c late b) s).get x = (s.get x).or (some (b + 1))) ∧ ((¬ ∃ t ∈ l, c.L late t b = true ∧ x ∈ c.E late t b) → (l.foldl (tel1 c late b) s).get x = s.get x)
  | [], s => ⟨fun ⟨_, h, _⟩ => absurd h (by simp), fun _ => rfl⟩
  | t :: l, s => by
    obtain ⟨i1, i2⟩ := get_tels (x := x) l (tel1 c late b s t)
    have e1 : (c.L late t b = true ∧ x ∈ c.E late t b) → (tel1 c late b s t).get x = (s.get x).or (some (b + 1)) := fun ⟨a1, a2⟩ => by
      unfold tel1; rw [if_pos a1, get_tell, if_pos a2]
    have e2 : ¬ (c.L late t b = true ∧ x ∈ c.E late t b) → (tel1 c late b s t).get x = s.get x := fun a => by
      unfold tel1
      split
      · rename_i q
        rw [get_tell, if_neg fun z => a ⟨q, z⟩]; simp
      · rfl
    rw [List.foldl_cons]
    constructor
    · rintro ⟨u, hu, h1, h2⟩
      cases Classical.em (∃ t ∈ l, c.L late t b = true ∧ x ∈ c.E late t b) with
      | inl q =>
        rw [i1 q]
        cases Classical.em (c.L late t b = true ∧ x ∈ c.E late t b) with
        | inl z => rw [e1 z]; cases s.get x <;> rfl
        | inr z => rw [e2 z]
      | inr q =>
        rw [i2 q]
        rcases List.mem_cons.mp hu with rfl | hu
        · exact e1 ⟨h1, h2⟩
        · exact absurd ⟨u, hu, h1, h2⟩ q
    · intro h
      have h1 : ¬ ∃ t ∈ l, c.L late t b = true ∧ x ∈ c.E late t b := fun ⟨u, hu, z⟩ => h ⟨u, by simp [hu], z⟩
      rw [i2 h1, e2 fun z => h ⟨t, by simp, z⟩]
theorem rel_tels (hH : Fk c.n H) {i : Nat} {s : Sn} (h : Rel c late H b i s) : Rel c late H b (i + 1) ((s.map (·.1)).foldl (tel1 c late (b + i)) s) := by
  refine ⟨tels_ok _ _ h.1, fun x => ?_⟩
  obtain ⟨g1, g2⟩ := get_tels (c := c) (late := late) (b := b + i) (x := x) (s.map (·.1)) s
  have keys : ∀ t, t ∈ s.map (·.1) ↔ mem c late H b i t := fun t => by
    rw [← h.some]
    cases q : s.get t with
    | none => simp only [Option.isSome_none, Bool.false_eq_true, iff_false]; exact get_none.mp q
    | some v =>
      simp only [Option.isSome_some, iff_true]
      cases Classical.em (t ∈ s.map (·.1)) with
      | inl z => exact z
      | inr z => rw [get_none.mpr z] at q; cases q
  cases Classical.em (mem c late H b i x) with
  | inl m =>
    have hx := (h.2 x).1 m
    refine ⟨fun _ => ?_, fun q => absurd (.inl m) q⟩
    obtain ⟨j, _, e, _⟩ := ear_mem m
    cases Classical.em (∃ t ∈ s.map (·.1), c.L late t (b + i) = true ∧ x ∈ c.E late t (b + i)) with
    | inl q => rw [g1 q, hx, e]; rfl
    | inr q => rw [g2 q, hx]
  | inr m =>
    have hx := (h.2 x).2 m
    refine ⟨fun q => ?_, fun q => ?_⟩
    · rcases q with q | ⟨t, mt, hL, hE⟩
      · exact absurd q m
      · rw [g1 ⟨t, (keys t).mpr mt, hL, hE⟩, hx, ear_some (i := i + 1) (.inr ⟨t, mt, hL, hE⟩) (fun k hk mk => m (mem_up (by omega) mk))]
        simp only [Option.none_or, Option.some.injEq]
        push_cast; omega
    · rw [g2 (fun ⟨t, ht, hL, hE⟩ => q (.inr ⟨t, (keys t).mp ht, hL, hE⟩)), hx]
end N0

set_option maxRecDepth 100000
set_option maxHeartbeats 1000000
namespace N0
open PySem Hw Pg M01 Sv
variable {c : Cw} {late : List St3} {H : List Int} {b : Int}
theorem r2_ok {d1 d2 : Ex} {env : En} {S : Sto} {i j : Int} (h : d1 env S = .ok (.int i) S) (h2 : d2 env S = .ok (.int j) S) (h0 : -1000 ≤ i) (h1 : i ≤ 1000000) (h3 : -1000 ≤ j) (h4 : j ≤ 1000000) : iR2 d1 d2 env S = .ok ((List.range (j - i).toNat).map fun k : Nat => .int (i + (k : Int))) S := by
  unfold iR2
  rw [h]
  simp only [bind_ok, h2]
  rw [okN_s h0 h1, okN_s h3 h4]
  rfl
abbrev ltE (c : Cw) (H : List Int) (b : Int) (late : List St3) (N : Int) (s : SV) (x6 x7 x8 x9 x10 : SV) : En := [.v (eW c), .v (eI H), .v (.int b), .v (eLate late), .v (.int N), s, x6, x7, x8, x9, x10]
theorem eD_tells_len {l : List Int} {s : Sn} (h : KOk c.n s) (hn : c.n ≤ 8) : s.length ≤ 1000000 := by have := h.len; omega
theorem dput_Sn {s : Sn} {k v : Int} (h : s.get k = none) : dput (eD s) k (.int v) = eD (s.put k v) := by
  rw [put_eD (by rw [h]; rfl), put_none h]
/-- whom one teller tells -/
theorem lt_ears (S : Sto) (h : c.G) (N beat t : Int) (x6 : SV) {s : Sn} (hk : KOk c.n s) (l : List Int) (hl : ∀ x ∈ l, 0 ≤ x ∧ x < c.n) (x9 x10 : SV) (n10 : nlk x10) : ∃ y10, nlk y10 ∧
    forLoop (tgN 10) (sSeq (sIf (eP2 pNotIn2 (pN 10) (pN 5)) (sSeq (sDput 5 (eVar 10) (eP2 pAdd (pN 7) (pA (eC (.int 1))))) (sNil)) (sNil)) (sNil)) (l.map .int) (ltE c H b late N (.own (.dI (eD s))) x6 (.v (.int beat)) (.v (.int t)) x9 x10) S =
      .nx (ltE c H b late N (.own (.dI (eD (l.foldl (fun s x => s.put x (beat + 1)) s)))) x6 (.v (.int beat)) (.v (.int t)) x9 y10) S := by
  have hn := G_n h
  obtain ⟨env', h1, _, y10, n10', rfl⟩ := for_st (g := tgN 10) (S := S) (body := (sSeq (sIf (eP2 pNotIn2 (pN 10) (pN 5)) (sSeq (sDput 5 (eVar 10) (eP2 pAdd (pN 7) (pA (eC (.int 1))))) (sNil)) (sNil)) (sNil))) PV.int
    (fun (s : Sn) env => KOk c.n s ∧ ∃ y10, nlk y10 ∧ env = ltE c H b late N (.own (.dI (eD s))) x6 (.v (.int beat)) (.v (.int t)) x9 y10) (fun s x => s.put x (beat + 1)) l s (ltE c H b late N (.own (.dI (eD s))) x6 (.v (.int beat)) (.v (.int t)) x9 x10)
    (fun x hx s env => by
      rintro ⟨hk, y10, m10, rfl⟩
      obtain ⟨x0, x1⟩ := hl x hx
      refine ⟨ltE c H b late N (.own (.dI (eD s))) x6 (.v (.int beat)) (.v (.int t)) x9 (.v (.int x)), ltE c H b late N (.own (.dI (eD (s.put x (beat + 1))))) x6 (.v (.int beat)) (.v (.int t)) x9 (.v (.int x)), by simp [ltE, setS_nlk m10], ?_, hk.put x0 x1, _, by simp [nlk], rfl⟩
      have hlen : s.length ≤ 1000000 := by have := hk.len; omega
      cases q : s.get x with
      | none => simp [ltE, in2_eD, q, hlen, dput_Sn q]
      | some v => simp [ltE, in2_eD, q, put_isSome (s := s) (k := x) (v := beat + 1) (by rw [q]; rfl)])
    ⟨hk, x10, n10, rfl⟩
  exact ⟨y10, n10', h1⟩
/-- one beat -/
def ltBody : Sm := (sSeq (sFor (iP (pA (eLk 5 (eLC (iP (pN 5)) [6] (tgN 6) (eP2 pLe (pA (eP2 pIx2 (pN 5) (pN 6))) (pN 7)) (eVar 6))))) (tgN 8) (sSeq (sPut (tgN 9) (eCall f_law_let (esCons (eVar 0) (esCons (eVar 8) (esCons (eVar 7) (esCons (eVar 3) (esNil))))))) (sSeq (sFor (iP (pA (eIf (eP2 pIs (pN 9) (pA (eC .non))) (eLst (esNil)) (eVar 9)))) (tgN 10) (sSeq (sIf (eP2 pNotIn2 (pN 10) (pN 5)) (sSeq (sDput 5 (eVar 10) (eP2 pAdd (pN 7) (pA (eC (.int 1))))) (sNil)) (sNil)) (sNil))) (sNil)))) (sNil))
theorem get_key {s : Sn} {x : Int} (h : x ∈ s.map (·.1)) : ∃ v, s.get x = some v := by
  cases q : s.get x with
  | none => exact absurd h (get_none.mp q)
  | some v => exact ⟨v, rfl⟩
theorem lt_beat (S : Sto) (h : c.G) (hH : Fk c.n H) {i : Nat} {s : Sn} (hr : Rel c late H b i s) (N : Int) (x6 x8 x9 x10 : SV) (n6 : plx x6) (n8 : nlk x8) (n9 : nlk x9) (n10 : nlk x10) : ∃ y8 y9 y10, nlk y8 ∧ nlk y9 ∧ nlk y10 ∧
    ltBody (ltE c H b late N (.own (.dI (eD s))) x6 (.v (.int (b + i))) x8 x9 x10) S = .nx (ltE c H b late N (.own (.dI (eD ((s.map (·.1)).foldl (tel1 c late (b + i)) s)))) x6 (.v (.int (b + i))) y8 y9 y10) S := by
  have hn := G_n h
  have hsl : s.length ≤ 1000000 := by have := hr.1.len; omega
  -- who tells
  have hl := elc (it := iP (pN 5)) (vs := [6]) (g := tgN 6) (c := eP2 pLe (pA (eP2 pIx2 (pN 5) (pN 6))) (pN 7)) (e := eVar 6) (env := ltE c H b late N (.lk (.dI (eD s))) x6 (.v (.int (b + i))) x8 x9 x10) (env0 := ltE c H b late N (.lk (.dI (eD s))) .un (.v (.int (b + i))) x8 x9 x10) (S := S)
    (s.map (·.1)) PV.int (fun _ => true) PV.int (by simp [ltE, keys_eD]) (by rw [wipe1 (i := 6) (x := x6) rfl n6]; rfl) (by simpa using hsl) (fun x hx => by
      obtain ⟨v, hv⟩ := get_key hx
      obtain ⟨v1, _⟩ := hr.val hv
      exact ⟨_, rfl, by simp [ix2_eD hv, v1], fun _ => by simp⟩)
  rw [List.filter_eq_self.mpr (fun _ _ => rfl)] at hl
  have keys : ∀ t : Int, t ∈ s.map (·.1) → 0 ≤ t ∧ t < c.n := fun t ht => by
    obtain ⟨p, hp, rfl⟩ := List.mem_map.mp ht
    exact hr.1.2 p hp
  obtain ⟨env', h1, hk', y8, y9, y10, m8, m9, m10, rfl⟩ := for_st (g := tgN 8) (S := S) (body := (sSeq (sPut (tgN 9) (eCall f_law_let (esCons (eVar 0) (esCons (eVar 8) (esCons (eVar 7) (esCons (eVar 3) (esNil))))))) (sSeq (sFor (iP (pA (eIf (eP2 pIs (pN 9) (pA (eC .non))) (eLst (esNil)) (eVar 9)))) (tgN 10) (sSeq (sIf (eP2 pNotIn2 (pN 10) (pN 5)) (sSeq (sDput 5 (eVar 10) (eP2 pAdd (pN 7) (pA (eC (.int 1))))) (sNil)) (sNil)) (sNil))) (sNil)))) PV.int
    (fun (s : Sn) env => KOk c.n s ∧ ∃ y8 y9 y10, nlk y8 ∧ nlk y9 ∧ nlk y10 ∧ env = ltE c H b late N (.own (.dI (eD s))) x6 (.v (.int (b + i))) y8 y9 y10) (tel1 c late (b + i)) (s.map (·.1)) s (ltE c H b late N (.own (.dI (eD s))) x6 (.v (.int (b + i))) x8 x9 x10)
    (fun t ht s env => by
      rintro ⟨hk, y8, y9, y10, m8, m9, m10, rfl⟩
      obtain ⟨t0, t1⟩ := keys t ht
      have hlet := ev_law_let (late := late) S h (b + i) t0 t1
      by_cases hL : c.L late t (b + i) = true
      · obtain ⟨z10, k10, hz⟩ := lt_ears (H := H) (b := b) (late := late) S h N (b + i) t x6 hk (c.E late t (b + i)) (fun x hx => E_ok hx) (.v (eL (c.E late t (b + i)))) y10 m10
        refine ⟨ltE c H b late N (.own (.dI (eD s))) x6 (.v (.int (b + i))) (.v (.int t)) y9 y10, ltE c H b late N (.own (.dI (eD (tel1 c late (b + i) s t)))) x6 (.v (.int (b + i))) (.v (.int t)) (.v (eL (c.E late t (b + i)))) z10, by simp [ltE, setS_nlk m8], ?_, ?_, _, _, z10, by simp [nlk], by simp [nlk], k10, rfl⟩
        · rw [hL] at hlet
          rw [show tel1 c late (b + i) s t = (c.E late t (b + i)).foldl (fun s x => s.put x (b + i + 1)) s by unfold tel1 tell; rw [if_pos hL]]
          simp only [ltE] at hz ⊢
          have isnl : pIs (eL (c.E late t (b + i))) .non = some (.bl false) := isnL
          have itl : itemsOf (eL (c.E late t (b + i))) = some ((c.E late t (b + i)).map .int) := rfl
          have pll : plOf (eL (c.E late t (b + i))) = .val (eL (c.E late t (b + i))) := rfl
          simp [hlet, setS_nlk m9, isnl, pll, itl, hz]
        · unfold tel1; rw [if_pos hL]; exact hk.tell t _
      · refine ⟨ltE c H b late N (.own (.dI (eD s))) x6 (.v (.int (b + i))) (.v (.int t)) y9 y10, ltE c H b late N (.own (.dI (eD (tel1 c late (b + i) s t)))) x6 (.v (.int (b + i))) (.v (.int t)) (.v .non) y10, by simp [ltE, setS_nlk m8], ?_, ?_, _, _, y10, by simp [nlk], by simp [nlk], m10, rfl⟩
        · rw [if_neg hL] at hlet
          rw [show tel1 c late (b + i) s t = s by unfold tel1; rw [if_neg hL]]
          simp [ltE, hlet, setS_nlk m9, forLoop]
        · unfold tel1; rw [if_neg hL]; exact hk)
    ⟨hr.1, x8, x9, x10, n8, n9, n10, rfl⟩
  refine ⟨y8, y9, y10, m8, m9, m10, ?_⟩
  unfold ltBody
  simp only [ltE] at hl h1 ⊢
  have itl : itemsOf (.lst ((s.map (·.1)).map PV.int)) = some ((s.map (·.1)).map PV.int) := rfl
  simp [↓hl, -List.map_map, h1]
end N0

set_option maxRecDepth 100000
set_option maxHeartbeats 1000000
namespace N0
open PySem Hw Pg M01 Sv
variable {c : Cw} {late : List St3} {H : List Int} {b : Int}
theorem hold_put : ∀ (l acc : List Int) (v : Int), (acc ++ l).Nodup → l.foldl (fun s x => Sn.put s x v) (hold acc v) = hold (acc ++ l) v := fun l acc v h => foldl_hold v l acc h
theorem ev_firsts (S : Sto) (h : c.G) (hH : Fk c.n H) (n : Nat) (b0 : -1000 ≤ b) (b1 : b + n ≤ 1000000) : ∃ s, f_law_firsts [eW c, eI H, .int b, eLate late, .int (n : Int)] S = .ok (.dI (eD s)) S ∧ Rel c late H b n s := by
  have hn := G_n h
  have hHl : H.length ≤ 8 := by have := hH.len; omega
  -- the owners
  obtain ⟨env', h1, x6, m6, rfl⟩ := for_pre (g := tgN 6) (S := S) (body := (sSeq (sDput 5 (eVar 6) (eVar 2)) (sNil))) PV.int
    (fun p env => ∃ x6, plx x6 ∧ env = ltE c H b late (n : Int) (.own (.dI (eD (hold p b)))) x6 .un .un .un .un) H [] (ltE c H b late (n : Int) (.own (.dI (eD []))) .un .un .un .un .un)
    (fun x p q env e => by
      rintro ⟨x6, m6, rfl⟩
      have e : H = p ++ x :: q := e
      have hx : x ∉ p := fun hm => by
        have := hH.nd
        rw [e, List.nodup_append] at this
        exact this.2.2 x hm x (by simp) rfl
      have hp : p.length ≤ 8 := by have := congrArg List.length e; simp at this; omega
      have hp2 : (hold p b).length ≤ 1000000 := by unfold hold; simp; omega
      refine ⟨ltE c H b late (n : Int) (.own (.dI (eD (hold p b)))) (.v (.int x)) .un .un .un .un, ltE c H b late (n : Int) (.own (.dI (eD (hold (p ++ [x]) b)))) (.v (.int x)) .un .un .un .un, by simp [ltE, setS_nlk m6.nlk], ?_, _, plx_v _, rfl⟩
      have hd : dput (eD (hold p b)) x (.int b) = eD (hold (p ++ [x]) b) := by
        rw [put_eD (by rw [get_hold_none hx]; rfl), hold_snoc]
      simp [ltE, hp2, hd])
    ⟨.un, plx_un, rfl⟩
  -- the beats
  obtain ⟨env', h2, s, hr, x6', x7, y8, y9, y10, k6, m7, m8, m9, m10, rfl⟩ := for_pre (g := tgN 7) (S := S) (body := ltBody) (fun k : Nat => .int (b + (k : Int)))
    (fun p env => ∃ s, Rel c late H b p.length s ∧ ∃ x6 x7 y8 y9 y10, plx x6 ∧ nlk x7 ∧ nlk y8 ∧ nlk y9 ∧ nlk y10 ∧ env = ltE c H b late (n : Int) (.own (.dI (eD s))) x6 x7 y8 y9 y10) (List.range n) [] (ltE c H b late (n : Int) (.own (.dI (eD (hold H b)))) x6 .un .un .un .un)
    (fun k p q env e => by
      rintro ⟨s, hr, x6, x7, y8, y9, y10, k6, m7, m8, m9, m10, rfl⟩
      have e : List.range n = p ++ k :: q := e
      have hk : p.length = k := by
        have l1 := congrArg List.length e
        simp at l1
        have h1 : (List.range n)[p.length]? = some p.length := by rw [List.getElem?_range (by omega)]
        rw [e, List.getElem?_append_right (Nat.le_refl _)] at h1
        simp at h1
        omega
      obtain ⟨z8, z9, z10, n8, n9, n10, hb⟩ := lt_beat S h hH hr (n : Int) x6 y8 y9 y10 k6 m8 m9 m10
      rw [hk] at hb
      refine ⟨ltE c H b late (n : Int) (.own (.dI (eD s))) x6 (.v (.int (b + (k : Int)))) y8 y9 y10, _, by simp [ltE, setS_nlk m7], hb, (s.map (·.1)).foldl (tel1 c late (b + k)) s, ?_, x6, _, z8, z9, z10, k6, by simp [nlk], n8, n9, n10, rfl⟩
      have := rel_tels hH hr
      rw [List.length_append, ← hk]
      exact this)
    ⟨hold H b, rel_start hH, x6, .un, .un, .un, .un, m6, by simp [nlk], by simp [nlk], by simp [nlk], by simp [nlk], rfl⟩
  refine ⟨s, ?_, by simpa using hr⟩
  have hr2 := r2_ok (d1 := eVar 2) (d2 := eP2 pAdd (pN 2) (pN 4)) (env := ltE c H b late (n : Int) (.own (.dI (eD (hold H b)))) x6 .un .un .un .un) (S := S) (i := b) (j := b + n) (by simp [ltE]) (by simp [ltE]) b0 (by omega) (by omega) b1
  rw [show (b + (n : Int) - b).toNat = n by omega] at hr2
  rw [f_law_firsts, run_s]
  change fin _ (d_law_firsts [.v (eW c), .v (eI H), .v (.int b), .v (eLate late), .v (.int n), .un, .un, .un, .un, .un, .un] S) = _
  simp only [ltE, ltBody, List.nil_append] at h1 h2 hr2 ⊢
  have pll : plOf (eI H) = .val (eI H) := rfl
  have itl : itemsOf (eI H) = some (H.map .int) := rfl
  have e0 : eD ([] : Sn) = [] := rfl
  rw [e0] at h1
  simp [d_law_firsts, pll, itl, h1, ↓hr2, h2]
theorem firsts_ear (h : c.G) (hH : Fk c.n H) {i0 n : Nat} (hs : Settled late (b + i0)) (hn : i0 + c.size * (c.n + 1) ≤ n) {s : Sn} (hr : Rel c late H b n s) (x : Int) : s.get x = ear c late H b x :=
  rel_end hr ((fp_all h hH hs).up hn) x
end N0

set_option maxRecDepth 100000
set_option maxHeartbeats 1000000
namespace N0
open PySem Hw Pg M01 Sv
variable {c : Cw} {late : List St3} {H : List Int} {b : Int}
theorem any_f {l : List St3} {p : St3 → Bool} (h : ∀ y ∈ l, p y = false) : pAny (.lst (l.map fun y => .bl (p y))) = some (.bl false) := by
  show (blsOf _).map (fun bs => PV.bl (bs.any id)) = _
  rw [M01.bls_map]
  simp only [Option.map_some, Option.some.injEq, PV.bl.injEq]
  rw [List.any_map]
  exact List.any_eq_false.mpr fun y hy => by simp [h y hy]
theorem ev_look_wait (S : Sto) (g : GoodL c.n late) (hs : Settled late (b + 200)) : f_look_wait [.int b, eLate late] S = .ok .non S := by
  have hl := elc1 (it := iP (pN 1)) (vs := [2, 3, 4]) (g := tgT [2, 3, 4]) (e := eP2 pGt (pN 3) (pA (eP2 pAdd (pN 0) (pA (eC (.int 200)))))) (env := [.v (.int b), .v (eLate late), .un, .un, .un]) (env0 := [.v (.int b), .v (eLate late), .un, .un, .un]) (S := S) late eS (fun y => .bl (decide (b + 200 < y.2.1)))
    (by simp [eLate]) rfl (by have := g.1; omega) (fun a ha => ⟨_, rfl, by simp⟩)
  have ha := any_f (l := late) (p := fun y => decide (b + 200 < y.2.1)) (fun y hy => by have := hs y hy; simp; omega)
  rw [f_look_wait, run_s]
  change fin _ (d_look_wait [.v (.int b), .v (eLate late), .un, .un, .un] S) = _
  simp [d_look_wait, ↓hl, ha]
theorem ev_earliest (S : Sto) (h : c.G) (hH : Fk c.n H) (g : GoodL c.n late) (b0 : 0 ≤ b) (b1 : b ≤ 1000000000000) (hs : Settled late (b + 200)) : f_earliest [eW c, eI H, .int b, eLate late] S = .ok (eOs ((List.range c.n).map fun k : Nat => ear c late H b (k : Int))) S := by
  have hn := G_n h
  obtain ⟨s, e1, hk, hg⟩ := ev_spread S h hH g (fun y hy => by have := hs y hy; omega) (b := b)
  have hl := get_lc S (env := [.v (eW c), .v (eI H), .v (.int b), .v (eLate late), .v (.dI (eD s)), .un]) (env0 := [.v (eW c), .v (eI H), .v (.int b), .v (eLate late), .v (.dI (eD s)), .un]) (j := 5) (k := 4) (d := eP1 pLen (pA (eP2 pIdx (pN 0) (pA (eC (.int 1)))))) s c.n (by omega) (by simp [Cw.n]) rfl (fun i => ⟨_, rfl, by simp [getD_eO]⟩)
  have e2 : ((List.range c.n).map fun k : Nat => s.get (k : Int)) = ((List.range c.n).map fun k : Nat => ear c late H b (k : Int)) := List.map_congr_left fun k _ => hg k
  rw [e2] at hl
  rw [f_earliest, run_s]
  change fin _ (d_earliest [.v (eW c), .v (eI H), .v (.int b), .v (eLate late), .un, .un] S) = _
  simp [d_earliest, ev_look_evening S h hH.1 hH.2 (by have := hH.len; omega) b0 b1 g, ev_look_wait S g hs, e1, ↓hl]
end N0

set_option maxRecDepth 100000
set_option maxHeartbeats 1000000
/-! ### how a word spreads: laws -/
namespace N0
open PySem Hw Pg M01 Sv
variable {c : Cw} {late : List St3} {H : List Int} {b : Int}
/-- what is had is not sooner than can be -/
def Slow (c : Cw) (late : List St3) (H : List Int) (b : Int) (s : Sn) : Prop := ∀ x v, s.get x = some v → ∃ j : Nat, b + j ≤ v ∧ mem c late H b j x
theorem slow_hold : Slow c late H b (hold H b) := fun x v h => by
  rw [get_hold] at h
  split at h
  · rename_i q
    cases h
    exact ⟨0, by omega, q⟩
  · cases h
theorem slow_one {s : Sn} (h : Slow c late H b s) (w : Int × Int) : Slow c late H b (one c late b s w) := by
  unfold one
  split
  · exact h
  · rename_i hi
    unfold idle at hi
    simp only [Bool.or_eq_true, decide_eq_true_eq, Bool.not_eq_true', not_or, Bool.not_eq_false] at hi
    obtain ⟨⟨i1, i2⟩, i3⟩ := hi
    have i2' : (s.get w.2).getD (w.1 + 1) ≤ w.1 := by omega
    intro x v hx
    rw [get_tell] at hx
    cases q : s.get x with
    | some u =>
      rw [q] at hx
      cases hx
      exact h x _ q
    | none =>
      rw [q] at hx
      simp only [Option.none_or] at hx
      split at hx
      · rename_i hE
        cases hx
        cases q2 : s.get w.2 with
        | none => rw [q2] at i2'; simp only [Option.getD_none] at i2'; omega
        | some u =>
          rw [q2] at i2'
          simp only [Option.getD_some] at i2'
          obtain ⟨j, hj, mj⟩ := h _ _ q2
          have e : b + ((w.1 - b).toNat : Int) = w.1 := by omega
          refine ⟨(w.1 - b).toNat + 1, by push_cast; omega, .inr ⟨w.2, mem_up (by omega) mj, ?_, ?_⟩⟩
          · rw [e]; exact i3
          · rw [e]; exact hE
      · cases hx
theorem slow_snc : ∀ (row : List (Int × Int)) {s : Sn}, Slow c late H b s → Slow c late H b (snc c late b s row)
  | [], s, h => h
  | w :: r, s, h => slow_snc r (slow_one h w)
theorem slow_ear {s : Sn} (h : Slow c late H b s) {x v : Int} (e : s.get x = some v) : ∃ u, ear c late H b x = some u ∧ u ≤ v := by
  obtain ⟨j, hj, mj⟩ := h x v e
  obtain ⟨k, hk, e, _⟩ := ear_mem mj
  exact ⟨_, e, by omega⟩
/-- rounds later -/
theorem settled_nil {b : Int} : Settled [] b := fun _ h => nomatch h
theorem mem_rnd (h : c.G) (hH : Fk c.n H) (k : Nat) : ∀ i x, mem c [] H (b + (c.size : Int) * k) i x ↔ mem c [] H b i x
  | 0, x => Iff.rfl
  | i + 1, x => by
    have ih := mem_rnd h hH k i
    have key : ∀ t, mem c [] H b i t → (c.L [] t (b + (c.size : Int) * k + i) = c.L [] t (b + i) ∧ c.E [] t (b + (c.size : Int) * k + i) = c.E [] t (b + i)) := fun t m => by
      obtain ⟨t0, t1⟩ := mem_fk hH m
      have e : b + (c.size : Int) * k + i = (b + i) + (c.size : Int) * k := by omega
      rw [e]
      exact ⟨L_rnd h t0 t1 settled_nil k, E_rnd h t0 t1 settled_nil k⟩
    show (mem c [] H _ i x ∨ ∃ t, _) ↔ (mem c [] H b i x ∨ ∃ t, _)
    rw [ih x]
    constructor
    · rintro (m | ⟨t, mt, a, e⟩)
      · exact .inl m
      · have mt := (ih t).mp mt
        obtain ⟨k1, k2⟩ := key t mt
        rw [k1] at a; rw [k2] at e
        exact .inr ⟨t, mt, a, e⟩
    · rintro (m | ⟨t, mt, a, e⟩)
      · exact .inl m
      · obtain ⟨k1, k2⟩ := key t mt
        exact .inr ⟨t, (ih t).mpr mt, by rw [k1]; exact a, by rw [k2]; exact e⟩
theorem ear_cases (c : Cw) (late : List St3) (H : List Int) (b : Int) (x : Int) : (∃ i : Nat, ear c late H b x = some (b + i) ∧ mem c late H b i x ∧ ∀ k, k < i → ¬ mem c late H b k x) ∨ (ear c late H b x = none ∧ ∀ i, ¬ mem c late H b i x) := by
  cases h : ear c late H b x with
  | none => exact .inr ⟨rfl, ear_none_iff.mp h⟩
  | some v =>
    obtain ⟨i, rfl, m, l⟩ := ear_of h
    exact .inl ⟨i, rfl, m, l⟩
theorem ear_rnd (h : c.G) (hH : Fk c.n H) (k : Nat) (x : Int) : ear c [] H (b + (c.size : Int) * k) x = (ear c [] H b x).map (· + (c.size : Int) * k) := by
  rcases ear_cases c [] H b x with ⟨i, e, m, l⟩ | ⟨e, l⟩
  · rw [e, ear_some ((mem_rnd h hH k i x).mpr m) (fun j hj q => l j hj ((mem_rnd h hH k j x).mp q))]
    simp only [Option.map_some, Option.some.injEq]
    omega
  · rw [e, ear_none fun i q => l i ((mem_rnd h hH k i x).mp q)]; rfl
/-- many holders -/
theorem mem_mono {H' : List Int} (hs : ∀ x ∈ H, x ∈ H') : ∀ i x, mem c late H b i x → mem c late H' b i x
  | 0, x, m => hs x m
  | i + 1, x, m => by
    rcases m with m | ⟨t, mt, a, e⟩
    · exact .inl (mem_mono hs i x m)
    · exact .inr ⟨t, mem_mono hs i t mt, a, e⟩
theorem mem_alone : ∀ i x, mem c late H b i x → ∃ h ∈ H, mem c late [h] b i x
  | 0, x, m => ⟨x, m, List.mem_singleton.mpr rfl⟩
  | i + 1, x, m => by
    rcases m with m | ⟨t, mt, a, e⟩
    · obtain ⟨h, hh, m⟩ := mem_alone i x m
      exact ⟨h, hh, .inl m⟩
    · obtain ⟨h, hh, m⟩ := mem_alone i t mt
      exact ⟨h, hh, .inr ⟨t, m, a, e⟩⟩
theorem ear_alone (x : Int) : ear c late H b x = (match (H.map fun h => ear c late [h] b x).filterMap id with | [] => none | a :: r => some (minL (a :: r))) := by
  generalize hl : (H.map fun h => ear c late [h] b x).filterMap id = l
  have hm : ∀ v, v ∈ l ↔ ∃ h ∈ H, ear c late [h] b x = some v := fun v => by
    rw [← hl]; simp
  cases l with
  | nil =>
    dsimp only
    refine ear_none fun i m => ?_
    obtain ⟨h, hh, m⟩ := mem_alone i x m
    obtain ⟨j, _, e, _⟩ := ear_mem m
    have := (hm _).mpr ⟨h, hh, e⟩
    cases this
  | cons a r =>
    dsimp only
    obtain ⟨m1, m2⟩ := minL_spec (a :: r) (by simp)
    obtain ⟨h, hh, e⟩ := (hm _).mp m1
    obtain ⟨i, e1, mi, li⟩ := ear_of e
    rw [e1] at m2 ⊢
    refine ear_some (mem_mono (by simpa using hh) i x mi) fun k hk mk => ?_
    obtain ⟨h2, hh2, mk2⟩ := mem_alone k x mk
    obtain ⟨j, hj, e2, _⟩ := ear_mem mk2
    have := m2 _ ((hm _).mpr ⟨h2, hh2, e2⟩)
    omega
theorem mem_empty : ∀ i x, ¬ mem c late [] b i x
  | 0, x, m => by cases m
  | i + 1, x, m => by
    rcases m with m | ⟨t, mt, _⟩
    · exact mem_empty i x m
    · exact mem_empty i t mt
theorem ear_empty (x : Int) : ear c late [] b x = none := ear_none fun i => mem_empty i x
/-! lists of some and none -/
theorem ix_eOs {l : List (Option Int)} {k : Nat} {o : Option Int} (h : l[k]? = some o) : pIdx (eOs l) (.int (k : Int)) = some (eO o) := by
  obtain ⟨h1, h2⟩ := List.getElem?_eq_some_iff.mp h
  have hk : (l.map eO)[k]? = some (eO o) := by rw [List.getElem?_map, h]; rfl
  have hl : k < (l.map eO).length := by simpa using h1
  show L2.atI (l.map eO) (k : Int) = _
  unfold L2.atI L2.ixN
  simp [h1, h2]
theorem isn_eO {o : Option Int} : pIs (eO o) .non = some (.bl o.isNone) := by cases o <;> rfl
theorem isnt_eO {o : Option Int} : pIsNot (eO o) .non = some (.bl o.isSome) := by cases o <;> rfl
theorem ne_eO (a d : Option Int) : pNeK (eO a) (eO d) = some (.bl (!decide (a = d))) := by
  cases a <;> cases d
  · rfl
  · rfl
  · rfl
  · rename_i x y
    show pNeK (.int x) (.int y) = _
    rw [M01.pNeI]
    by_cases h : x = y <;> simp [h]
theorem itO {l : List (Option Int)} : itemsOf (eOs l) = some (l.map eO) := rfl
theorem nth_ears {f : Int → Option Int} {n k : Nat} (h : k < n) : ((List.range n).map fun k : Nat => f (k : Int))[k]? = some (f (k : Int)) := by
  rw [List.getElem?_map, List.getElem?_range h]; rfl
end N0

set_option maxRecDepth 100000
set_option maxHeartbeats 1000000
/-! ### helps for the laws -/
namespace N0
open PySem Hw Pg M01 Sv
variable {c : Cw} {late : List St3} {H : List Int} {b : Int}
theorem mul_w {a b : Int} (h : -18446744073709551616 < a ∧ a < 18446744073709551616) : pMul (.int a) (.int b) = some (.int (a * b)) := by
  have : cmulB a b = true := by unfold cmulB; simp [h.1, h.2]
  unfold pMul
  dsimp only
  rw [if_pos this]
theorem tup_l {l : List St3} : pTuple (.lst (l.map eS)) = some (eLate l) := rfl
theorem ev_lates {S0 S : Sto} (hT : TownR [] S) {it : Itx} {env : En} {j k : Nat} {start m : Int} {fl : List Int} (hfl : fl.length ≤ 1000) (hi : it env S0 = .ok (fl.map .int) S) (h1 : env[1]? = some (.v (.ptr 1))) (hk : env[k]? = some (.v (.int start))) (hj : env[j]? = some .un) (nj : j ≠ 1) (nk : j ≠ k) (m0 : 0 < m) (m1 : m < 1000000) :
    ∃ (late : List St3) (S' : Sto), eLC it [j] (tgN j) eYes (eTup (esCons (eVar j) (esCons (eP2 pAdd (pN k) (pA (eCall f_law_draw (esCons (eVar 1) (esCons (eC (.int m)) (esNil)))))) (esCons (eP2 pAdd (pA (eC (.int 1))) (pA (eCall f_law_draw (esCons (eVar 1) (esCons (eC (.int 5)) (esNil)))))) (esNil))))) env S0 = .ok (.lst (late.map eS)) S' ∧ TownR [] S' ∧ late.map (·.1) = fl ∧
      ∀ y ∈ late, start ≤ y.2.1 ∧ y.2.1 < start + m ∧ 1 ≤ y.2.2 ∧ y.2.2 < 6 := by
  have jl : j < env.length := (List.getElem?_eq_some_iff.mp hj).1
  have hw : wipeE [j] env = some env := by
    rw [wipe1 hj plx_un]
    congr 1
    refine List.ext_getElem? fun i => ?_
    by_cases h : j = i
    · subst h; rw [List.getElem?_set_self jl, hj]
    · rw [List.getElem?_set_ne h]
  have hE0 : ∃ ys S', eLC it [j] (tgN j) eYes (eTup (esCons (eVar j) (esCons (eP2 pAdd (pN k) (pA (eCall f_law_draw (esCons (eVar 1) (esCons (eC (.int m)) (esNil)))))) (esCons (eP2 pAdd (pA (eC (.int 1))) (pA (eCall f_law_draw (esCons (eVar 1) (esCons (eC (.int 5)) (esNil)))))) (esNil))))) env S0 = .ok (.lst ys) S' ∧ TownR [] S' ∧ ∃ late : List St3, ys = late.map eS ∧ late.map (·.1) = fl ∧ ∀ y ∈ late, start ≤ y.2.1 ∧ y.2.1 < start + m ∧ 1 ≤ y.2.2 ∧ y.2.2 < 6 := by
    refine elcS (env0 := env) PV.int
      (fun p acc S => TownR [] S ∧ ∃ late : List St3, acc = late.map eS ∧ late.map (·.1) = p ∧ ∀ y ∈ late, start ≤ y.2.1 ∧ y.2.1 < start + m ∧ 1 ≤ y.2.2 ∧ y.2.2 < 6) fl (S1 := S) hi hw (by omega) ?_ ⟨hT, [], rfl, rfl, by simp⟩
    rintro a p q acc S el ⟨hT, late, rfl, hm, hb⟩
    obtain ⟨d1, S1, e1, T1, a0, a1⟩ := draw_ok hT (n := m) (by omega) (by omega)
    obtain ⟨d2, S2, e2, T2, b0, b1⟩ := draw_ok T1 (n := 5) (by omega) (by omega)
    refine ⟨env.set j (.v (.int a)), eS (a, start + d1, 1 + d2), S2, by simp [hj], ?_, T2, late ++ [(a, start + d1, 1 + d2)], by simp, by simp [hm], fun y hy => ?_⟩
    · simp [List.getElem?_set_self jl, List.getElem?_set_ne nj, List.getElem?_set_ne nk, h1, hk, e1, e2, eS]
    · rcases List.mem_append.mp hy with hy | hy
      · exact hb y hy
      · simp only [List.mem_singleton] at hy
        subst hy
        exact ⟨by simp; omega, by simp; omega, by simp; omega, by simp; omega⟩
  obtain ⟨_, S', e, T, late, rfl, h, h2⟩ := hE0
  exact ⟨late, S', e, T, h, h2⟩
/-- those that are not None -/
theorem known_ints : ∀ l : List (Option Int), ((l.filter fun o => o.isSome).map eO) = (l.filterMap id).map .int
  | [] => rfl
  | none :: l => by simp [known_ints l]
  | some v :: l => by simp [known_ints l, eO]
theorem min_ints (a : Int) (l : List Int) : pMinL (.lst ((a :: l).map .int)) = some (.int (minL (a :: l))) := by
  have h : intsOf ((a :: l).map .int) = some (a :: l) := intsOf_map _
  unfold pMinL
  simp only [h]
theorem ne_nil_ints (l : List Int) (hl : l.length ≤ 100) : pNeK (.lst (l.map .int)) (.lst []) = some (.bl (!l.isEmpty)) := by
  have h1 : ∀ l : List Int, PV.shL (l.map .int) 15 = true := fun l => by
    induction l with
    | nil => rfl
    | cons a l ih => show (PV.sh (.int a) 15 && PV.shL (l.map .int) 15) = true; rw [ih]; rfl
  have h2 : PV.sh (.lst (l.map .int)) 16 = true := h1 l
  show (if (PV.lst (l.map .int)).sh 16 && (PV.lst []).sh 16 then some (PV.bl (!(PV.lst (l.map .int)).eq (.lst []))) else none) = _
  rw [h2]
  cases l <;> rfl
theorem nons_mul (n : Nat) (hn : n ≤ 1000) : pMul (.lst [.non]) (.int (n : Int)) = some (eOs (List.replicate n none)) := by
  have h : (decide (-(2 ^ 63) ≤ (n : Int)) && decide ((n : Int) < 2 ^ 63) && decide (([PV.non]).length * ((n : Int)).toNat ≤ 1000000)) = true := by
    simp only [Bool.and_eq_true, decide_eq_true_eq, List.length_singleton]
    refine ⟨⟨by omega, by omega⟩, by omega⟩
  unfold pMul
  dsimp only
  rw [if_pos h]
  have e : (List.replicate ((n : Int)).toNat [PV.non]).flatten = (List.replicate n (none : Option Int)).map eO := by
    rw [show ((n : Int)).toNat = n by omega]
    clear h hn
    induction n with
    | zero => rfl
    | succ n ih => simp only [List.replicate_succ, List.flatten_cons, ih, List.map_cons]; rfl
  rw [e]; rfl
theorem range_none (n : Nat) (f : Nat → Option Int) (h : ∀ k, f k = none) : (List.range n).map f = List.replicate n none := by
  rw [List.map_congr_left (g := fun _ => none) fun k _ => h k]
  exact List.map_const'.trans (by simp)
@[simp] theorem toL_eOs {l : List (Option Int)} {i : Nat} {env : En} {S : Sto} : toL (some (.own (eOs l))) i env S = .nx (env.set i (.v (eOs l))) S := rfl
end N0

set_option maxRecDepth 100000
set_option maxHeartbeats 1000000
/-! ### all to whom a word can ever come -/
namespace N0
open PySem Hw Pg M01 Sv
variable {c : Cw} {late : List St3} {H : List Int} {b : Int} {ok : Int → Bool}
inductive GR (c : Cw) (ok : Int → Bool) (H : List Int) : Int → Prop
  | base {x : Int} (h : x ∈ H) : GR c ok H x
  | step {t x : Int} {b : Nat} (ht : GR c ok H t) (ho : ok t = true) (hb : b < c.size) (hL : c.L [] t (b : Int) = true) (hE : x ∈ c.E [] t (b : Int)) : GR c ok H x
abbrev yes : Int → Bool := fun _ => true
theorem GR.fk (hH : Fk c.n H) {x : Int} (h : GR c ok H x) : 0 ≤ x ∧ x < c.n := by
  induction h with
  | base h => exact hH.1 _ h
  | step _ _ _ _ hE _ => exact E_ok hE
theorem LE_mod (h : c.G) {t : Int} (h0 : 0 ≤ t) (h1 : t < c.n) (b : Int) : ∃ k : Nat, k < c.size ∧ c.L [] t b = c.L [] t (k : Int) ∧ c.E [] t b = c.E [] t (k : Int) := by
  have hz := (size_ok h).1
  obtain ⟨q0, q1⟩ := emod_in (a := b) (n := c.size) (by omega)
  refine ⟨(b % (c.size : Int)).toNat, by omega, ?_⟩
  have e : (((b % (c.size : Int)).toNat : Nat) : Int) = b % (c.size : Int) := by omega
  rw [e]
  by_cases hb : 0 ≤ b
  · have hk : (((b / (c.size : Int)).toNat : Nat) : Int) = b / (c.size : Int) := by have := Int.ediv_nonneg hb (show (0 : Int) ≤ c.size by omega); omega
    have e2 : b = b % (c.size : Int) + (c.size : Int) * ((b / (c.size : Int)).toNat : Int) := by rw [hk]; exact (Int.emod_add_mul_ediv b c.size).symm
    have a1 := L_rnd h h0 h1 (b := b % (c.size : Int)) settled_nil (b / (c.size : Int)).toNat
    have a2 := E_rnd h h0 h1 (b := b % (c.size : Int)) settled_nil (b / (c.size : Int)).toNat
    rw [← e2] at a1 a2
    exact ⟨a1, a2⟩
  · have hneg : b / (c.size : Int) ≤ 0 := by
      have := Int.ediv_neg_of_neg_of_pos (show b < 0 by omega) (show (0 : Int) < c.size by omega); omega
    have hk : (((-(b / (c.size : Int))).toNat : Nat) : Int) = -(b / (c.size : Int)) := by omega
    have e2 : b % (c.size : Int) = b + (c.size : Int) * ((-(b / (c.size : Int))).toNat : Int) := by
      rw [hk, Int.mul_neg]
      have := Int.emod_add_mul_ediv b c.size
      omega
    have a1 := L_rnd h h0 h1 (b := b) settled_nil (-(b / (c.size : Int))).toNat
    have a2 := E_rnd h h0 h1 (b := b) settled_nil (-(b / (c.size : Int))).toNat
    rw [← e2] at a1 a2
    exact ⟨a1.symm, a2.symm⟩
theorem gr_mem (h : c.G) (hH : Fk c.n H) (b : Int) (x : Int) : (∃ i, mem c [] H b i x) ↔ GR c yes H x := by
  constructor
  · rintro ⟨i, m⟩
    induction i generalizing x with
    | zero => exact .base m
    | succ i ih =>
      rcases m with m | ⟨t, mt, hL, hE⟩
      · exact ih x m
      · obtain ⟨t0, t1⟩ := mem_fk hH mt
        obtain ⟨k, hk, e1, e2⟩ := LE_mod h t0 t1 (b + i)
        rw [e1] at hL; rw [e2] at hE
        exact .step (ih t mt) rfl hk hL hE
  · intro g
    induction g with
    | base h => exact ⟨0, h⟩
    | @step t x k ht _ hk hL hE ih =>
      obtain ⟨i, m⟩ := ih
      obtain ⟨t0, t1⟩ := mem_fk hH m
      have hz := (size_ok h).1
      -- a beat not before b + i that is k within the round
      obtain ⟨q0, q1⟩ := emod_in (a := (k : Int) - (b + i)) (n := c.size) (by omega)
      obtain ⟨d, hd⟩ : ∃ d : Nat, (d : Int) = ((k : Int) - (b + i)) % (c.size : Int) := ⟨(((k : Int) - (b + i)) % (c.size : Int)).toNat, by omega⟩
      have e : b + ((i + d : Nat) : Int) = (k : Int) - (c.size : Int) * (((k : Int) - (b + i)) / (c.size : Int)) := by
        have := Int.emod_add_mul_ediv ((k : Int) - (b + i)) c.size
        push_cast; omega
      obtain ⟨k2, hk2, e1, e2⟩ := LE_mod h t0 t1 (b + ((i + d : Nat) : Int))
      obtain ⟨k3, hk3, e3, e4⟩ := LE_mod h t0 t1 (k : Int)
      have key : c.L [] t (b + ((i + d : Nat) : Int)) = c.L [] t (k : Int) ∧ c.E [] t (b + ((i + d : Nat) : Int)) = c.E [] t (k : Int) := by
        rw [e]
        generalize ((k : Int) - (b + i)) / (c.size : Int) = z
        by_cases hz0 : 0 ≤ z
        · have hzt : ((z.toNat : Nat) : Int) = z := by omega
          have a1 := L_rnd h t0 t1 (b := (k : Int) - (c.size : Int) * z) settled_nil z.toNat
          have a2 := E_rnd h t0 t1 (b := (k : Int) - (c.size : Int) * z) settled_nil z.toNat
          rw [hzt, show (k : Int) - (c.size : Int) * z + (c.size : Int) * z = (k : Int) by omega] at a1 a2
          exact ⟨a1.symm, a2.symm⟩
        · have hzt : (((-z).toNat : Nat) : Int) = -z := by omega
          have a1 := L_rnd h t0 t1 (b := (k : Int)) settled_nil (-z).toNat
          have a2 := E_rnd h t0 t1 (b := (k : Int)) settled_nil (-z).toNat
          rw [hzt, Int.mul_neg, ← Int.sub_eq_add_neg] at a1 a2
          exact ⟨a1, a2⟩
      exact ⟨i + d + 1, .inr ⟨t, mem_up (Nat.le_add_right i d) m, by rw [key.1]; exact hL, by rw [key.2]; exact hE⟩⟩
open Classical in
/-- all to whom it can ever come, rising -/
noncomputable def rch (c : Cw) (H : List Int) : List Int := ((List.range c.n).filter fun k : Nat => decide (GR c yes H (k : Int))).map fun k : Nat => (k : Int)
open Classical in
theorem mem_rch (hH : Fk c.n H) {x : Int} : x ∈ rch c H ↔ GR c yes H x := by
  unfold rch
  rw [List.mem_map]
  constructor
  · rintro ⟨k, hk, rfl⟩
    simpa using (List.mem_filter.mp hk).2
  · intro g
    have := g.fk hH
    refine ⟨x.toNat, List.mem_filter.mpr ⟨List.mem_range.mpr (by omega), ?_⟩, by omega⟩
    simp only [decide_eq_true_eq]
    rw [show ((x.toNat : Nat) : Int) = x by omega]; exact g
theorem range_incr (n : Nat) : (List.range n).Pairwise (· < ·) := List.pairwise_lt_range
open Classical in
theorem rch_fk (hH : Fk c.n H) : Fk c.n (rch c H) := by
  refine ⟨fun x hx => ((mem_rch hH).mp hx).fk hH, ?_⟩
  unfold rch
  rw [List.pairwise_map]
  exact ((range_incr c.n).filter _).imp fun {a b} h => by omega
/-- two rising lists of the same -/
theorem inc_eq : ∀ {l m : List Int}, l.Pairwise (· < ·) → m.Pairwise (· < ·) → (∀ x, x ∈ l ↔ x ∈ m) → l = m
  | [], [], _, _, _ => rfl
  | [], b :: m, _, _, h => absurd ((h b).mpr (by simp)) (by simp)
  | a :: l, [], _, _, h => absurd ((h a).mp (by simp)) (by simp)
  | a :: l, b :: m, hl, hm, h => by
    obtain ⟨l1, l2⟩ := List.pairwise_cons.mp hl
    obtain ⟨m1, m2⟩ := List.pairwise_cons.mp hm
    have e : a = b := by
      rcases List.mem_cons.mp ((h a).mp (by simp)) with q | q
      · exact q
      · rcases List.mem_cons.mp ((h b).mpr (by simp)) with q2 | q2
        · exact q2.symm
        · have := m1 a q; have := l1 b q2; omega
    subst e
    congr 1
    refine inc_eq l2 m2 fun x => ?_
    constructor
    · intro hx
      rcases List.mem_cons.mp ((h x).mp (by simp [hx])) with q | q
      · have := l1 x hx; omega
      · exact q
    · intro hx
      rcases List.mem_cons.mp ((h x).mpr (by simp [hx])) with q | q
      · have := m1 x hx; omega
      · exact q
theorem srtI_inc {l m : List Int} (nd : l.Nodup) (hm : m.Pairwise (· < ·)) (h : ∀ x, x ∈ l ↔ x ∈ m) : srt ltI l = m := by
  refine inc_eq ?_ hm fun x => ((srt_perm (lt := ltI) l).mem_iff).trans (h x)
  have hs := srt_srtd totI l
  have hn : (srt ltI l).Nodup := (srt_perm (lt := ltI) l).nodup_iff.mpr nd
  have hs2 : (srt ltI l).Pairwise (· ≤ ·) := List.Pairwise.imp (fun {a b} q => by simp [ltI] at q; omega) hs
  exact (hs2.and hn).imp fun {a b} q => by have := q.1; have := q.2; omega
theorem sorted_ints (l : List Int) : pSorted (.lst (l.map .int)) = some (.lst ((srt ltI l).map .int)) := by
  show (match intsOf (l.map .int) with
      | some ns => some (PV.lst ((srt ltI ns).map .int))
      | none => _) = _
  rw [intsOf_map]
theorem flat_ints : ∀ l : List Int, (l.map PV.int).all flatP = true
  | [] => rfl
  | k :: l => by rw [List.map_cons, List.all_cons, flat_ints l]; rfl
theorem any_ints (x : Int) (l : List Int) : ((l.map PV.int).any fun z => z.eq (.int x)) = decide (x ∈ l) := by
  rw [List.any_map]
  induction l with
  | nil => rfl
  | cons p ps ih =>
    rw [List.any_cons, ih]
    show ((p == x) || decide (x ∈ ps)) = _
    by_cases h : p = x
    · simp [h]
    · have h' : ¬ x = p := fun q => h q.symm
      simp [h, h']
theorem in_T (x : Int) (l : List Int) : pInX (.int x) (.tup (l.map .int)) = some (.bl (decide (x ∈ l))) := by
  show (if flatP (.int x) && (l.map PV.int).all flatP then some (PV.bl ((l.map PV.int).any fun z => z.eq (.int x))) else none) = _
  rw [flat_ints l, any_ints]; rfl
theorem in_L (x : Int) (l : List Int) : pInX (.int x) (.lst (l.map .int)) = some (.bl (decide (x ∈ l))) := by
  show (if flatP (.int x) && (l.map PV.int).all flatP then some (PV.bl ((l.map PV.int).any fun z => z.eq (.int x))) else _) = _
  rw [flat_ints l, any_ints]; rfl
theorem notin_T (x : Int) (l : List Int) : pNotInX (.int x) (.tup (l.map .int)) = some (.bl (!decide (x ∈ l))) := by
  unfold pNotInX; rw [in_T]
theorem notin_L (x : Int) (l : List Int) : pNotInX (.int x) (.lst (l.map .int)) = some (.bl (!decide (x ∈ l))) := by
  unfold pNotInX; rw [in_L]
end N0

set_option maxRecDepth 100000
set_option maxHeartbeats 1000000
/-! ### closed, ever, lot -/
namespace N0
open PySem Hw Pg M01 Sv
variable {c : Cw} {late : List St3} {H : List Int} {b : Int} {ok : Int → Bool}
theorem ev_E0 (S : Sto) (h : c.G) {t : Int} (b : Int) (g0 : 0 ≤ t) (g1 : t < c.n) : f_ears [eW c, .int t, .int b, .tup []] S = .ok (eI (c.E [] t b)) S := by
  have e : eLate [] = .tup [] := rfl
  rw [← e]; exact ev_E S h b g0 g1
theorem ev_L0 (S : Sto) (h : c.G) {t : Int} (b : Int) (g0 : 0 ≤ t) (g1 : t < c.n) : f_may_tell [eW c, .int t, .int b, .tup []] S = .ok (.bl (c.L [] t b)) S := by
  have e : eLate [] = .tup [] := rfl
  rw [← e]; exact ev_L S h b g0 g1
def Done (c : Cw) (ok : Int → Bool) (F : List Int) (t : Int) (m : Nat) : Prop := ∀ b : Nat, b < m → ok t = true → c.L [] t (b : Int) = true → ∀ x ∈ c.E [] t (b : Int), x ∈ F
/-- a list of the found, worked through up to k -/
structure WL (c : Cw) (ok : Int → Bool) (H F : List Int) : Prop where
  nd : F.Nodup
  gr : ∀ x ∈ F, GR c ok H x
  base : ∀ x ∈ H, x ∈ F
theorem WL.len (hH : Fk c.n H) {F : List Int} (h : WL c ok H F) : F.length ≤ c.n := nodup_len h.nd fun x hx => (h.gr x hx).fk hH
theorem WL.all {F : List Int} (h : WL c ok H F) (hd : ∀ (j : Nat) t, F[j]? = some t → Done c ok F t c.size) {x : Int} : x ∈ F ↔ GR c ok H x := by
  refine ⟨h.gr x, fun g => ?_⟩
  induction g with
  | base q => exact h.base _ q
  | @step t x k ht ho hk hL hE ih =>
    obtain ⟨j, hj⟩ := List.getElem?_of_mem ih
    exact hd j t hj k hk ho hL x hE
theorem Done.up {F G : List Int} {t : Int} {m : Nat} (h : Done c ok F t m) : Done c ok (F ++ G) t m := fun b hb ho hL x hx => List.mem_append.mpr (.inl (h b hb ho hL x hx))
/-- one beat of a teller -/
theorem WL.tell (hz : b ∈ [b]) {F : List Int} {t : Int} {k : Nat} (h : WL c ok H F) (ht : GR c ok H t) (hk : k < c.size) (ho : ok t = true) (hL : c.L [] t (k : Int) = true) : WL c ok H (F ++ (c.E [] t (k : Int)).filter fun x => !decide (x ∈ F)) := by
  refine ⟨?_, fun x hx => ?_, fun x hx => List.mem_append.mpr (.inl (h.base x hx))⟩
  · rw [List.nodup_append]
    refine ⟨h.nd, E_nd.filter _, fun a ha d hd e => ?_⟩
    have := (List.mem_filter.mp hd).2
    rw [← e] at this
    simp [ha] at this
  · rcases List.mem_append.mp hx with hx | hx
    · exact h.gr x hx
    · exact .step ht ho hk hL (List.mem_filter.mp hx).1
theorem mem_tell {F E : List Int} {x : Int} (hx : x ∈ E) : x ∈ F ++ E.filter fun x => !decide (x ∈ F) := by
  by_cases h : x ∈ F
  · exact List.mem_append.mpr (.inl h)
  · exact List.mem_append.mpr (.inr (List.mem_filter.mpr ⟨hx, by simp [h]⟩))
abbrev clE (c : Cw) (H F : List Int) (k : Nat) (x5 x6 : SV) : En := [.v (eW c), .v (eI H), .own (.lst (F.map .int)), .v (.int (c.size : Int)), .v (.int (k : Int)), x5, x6, .un]
def clBeat : Sm := (sSeq (sIf (eCall f_may_tell (esCons (eVar 0) (esCons (eVar 5) (esCons (eVar 6) (esCons (eTup (esNil)) (esNil)))))) (sSeq (sExt 2 (eLC (iP (pA (eCall f_ears (esCons (eVar 0) (esCons (eVar 5) (esCons (eVar 6) (esCons (eTup (esNil)) (esNil)))))))) [7] (tgN 7) (eP2 pNotInX (pN 7) (pN 2)) (eVar 7))) (sNil)) (sNil)) (sNil))
theorem range_at {n : Nat} {p q : List Nat} {k : Nat} (e : List.range n = p ++ k :: q) : p.length = k ∧ k < n := by
  have l1 := congrArg List.length e
  simp at l1
  have h1 : (List.range n)[p.length]? = some p.length := by rw [List.getElem?_range (by omega)]
  rw [e, List.getElem?_append_right (Nat.le_refl _)] at h1
  simp at h1
  exact ⟨by omega, by omega⟩
theorem cl_beats (S : Sto) (h : c.G) (hH : Fk c.n H) (k : Nat) {F : List Int} {t : Int} (hF : WL c yes H F) (ht : GR c yes H t) (x6 : SV) (n6 : nlk x6) :
    ∃ G y6, nlk y6 ∧ WL c yes H (F ++ G) ∧ Done c yes (F ++ G) t c.size ∧ forLoop (tgN 6) clBeat ((List.range c.size).map eK) (clE c H F k (.v (.int t)) x6) S = .nx (clE c H (F ++ G) k (.v (.int t)) y6) S := by
  have hn := G_n h
  have hz := size_ok h
  obtain ⟨t0, t1⟩ := ht.fk hH
  obtain ⟨env', h1, G, y6, m6, hw, hd, rfl⟩ := for_pre (g := tgN 6) (S := S) (body := clBeat) eK
    (fun p env => ∃ G y6, nlk y6 ∧ WL c yes H (F ++ G) ∧ Done c yes (F ++ G) t p.length ∧ env = clE c H (F ++ G) k (.v (.int t)) y6) (List.range c.size) [] (clE c H F k (.v (.int t)) x6)
    (fun m p q env e => by
      rintro ⟨G, y6, m6, hw, hd, rfl⟩
      obtain ⟨em, hm⟩ := range_at (show List.range c.size = p ++ m :: q from e)
      have hlen := hw.len hH
      by_cases hL : c.L [] t (m : Int) = true
      · have hdc := elc (it := iP (pA (eCall f_ears (esCons (eVar 0) (esCons (eVar 5) (esCons (eVar 6) (esCons (eTup (esNil)) (esNil)))))))) (vs := [7]) (g := tgN 7) (c := eP2 pNotInX (pN 7) (pN 2)) (e := eVar 7)
          (env := clE c H (F ++ G) k (.v (.int t)) (.v (.int (m : Int)))) (env0 := clE c H (F ++ G) k (.v (.int t)) (.v (.int (m : Int)))) (S := S) (c.E [] t (m : Int)) PV.int (fun x => !decide (x ∈ F ++ G)) PV.int
          (by simp [ev_E0 S h (m : Int) t0 t1, eI]) rfl (by have := E_len (late := []) (t := t) (b := (m : Int)) h; omega) (fun x hx => ⟨_, rfl, by simp [notin_L, -List.map_append, -List.mem_append], fun _ => by simp⟩)
        have hw2 := hw.tell (b := 0) (by simp) ht hm rfl hL
        have hlen2 := hw2.len hH
        refine ⟨clE c H (F ++ G) k (.v (.int t)) (.v (.int (m : Int))), clE c H (F ++ (G ++ (c.E [] t (m : Int)).filter fun x => !decide (x ∈ F ++ G))) k (.v (.int t)) (.v (.int (m : Int))), by simp [clE, eK, setS_nlk m6, -List.map_append], ?_, G ++ (c.E [] t (m : Int)).filter fun x => !decide (x ∈ F ++ G), _, by simp [nlk], by rw [← List.append_assoc]; exact hw2, ?_, rfl⟩
        · rw [← List.append_assoc]
          have l1 : ((F ++ G).map PV.int).length ≤ 1000000 := by rw [List.length_map]; omega
          have l2 : (((c.E [] t (m : Int)).filter fun x => !decide (x ∈ F ++ G)).map PV.int).length ≤ 1000000 := by
            rw [List.length_append] at hlen2
            rw [List.length_map]; omega
          have hmap : ((F ++ G) ++ (c.E [] t (m : Int)).filter fun x => !decide (x ∈ F ++ G)).map PV.int = (F ++ G).map PV.int ++ ((c.E [] t (m : Int)).filter fun x => !decide (x ∈ F ++ G)).map PV.int := List.map_append
          simp only [clE] at hdc ⊢
          rw [hmap]
          generalize ((c.E [] t (m : Int)).filter fun x => !decide (x ∈ F ++ G)).map PV.int = ys at hdc l2
          generalize (F ++ G).map PV.int = xs at hdc l1
          simp [clBeat, ev_L0 S h (m : Int) t0 t1, hL, ↓hdc, l1, l2, -List.length_map]
        · intro d hd' ho' hL' x hx
          rw [← List.append_assoc]
          by_cases hdm : d = m
          · subst hdm; exact mem_tell hx
          · exact List.mem_append.mpr (.inl (hd d (by rw [List.length_append] at hd'; simp at hd'; omega) ho' hL' x hx))
      · refine ⟨clE c H (F ++ G) k (.v (.int t)) (.v (.int (m : Int))), clE c H (F ++ G) k (.v (.int t)) (.v (.int (m : Int))), by simp [clE, eK, setS_nlk m6, -List.map_append], ?_, G, _, by simp [nlk], hw, ?_, rfl⟩
        · have hL' : c.L [] t (m : Int) = false := by simpa using hL
          simp only [clE]
          generalize (F ++ G).map PV.int = xs
          simp [clBeat, ev_L0 S h (m : Int) t0 t1, hL']
        · intro d hd' ho' hL' x hx
          by_cases hdm : d = m
          · subst hdm; exact absurd hL' hL
          · exact hd d (by rw [List.length_append] at hd'; simp at hd'; omega) ho' hL' x hx)
    ⟨[], x6, n6, by simpa using hF, fun d hd => absurd hd (Nat.not_lt_zero d), by simp [clE]⟩
  exact ⟨G, y6, m6, hw, by simpa using hd, h1⟩
def clBody : Sm := (sSeq (sPut (tgN 5) (eP2 pIdx (pN 2) (pN 4))) (sSeq (sFor (iR1 (eVar 3)) (tgN 6) clBeat) (sSeq (sAug 4 pAddI (eC (.int 1))) (sNil))))
theorem ix_L {l : List Int} {k : Nat} {x : Int} (h : l[k]? = some x) : pIdx (.lst (l.map .int)) (.int (k : Int)) = some (.int x) := by
  obtain ⟨h1, h2⟩ := List.getElem?_eq_some_iff.mp h
  show L2.atI (l.map PV.int) (k : Int) = _
  unfold L2.atI L2.ixN
  simp [h1, h2]
theorem cl_while (S : Sto) (h : c.G) (hH : Fk c.n H) : ∃ env S', whileLoop (eP2 pLt (pN 4) (pA (eP1 pLen (pN 2)))) clBody fuel (clE c H H 0 .un .un) S = .nx env S' ∧ S' = S ∧ ∃ F k x5 x6, env = clE c H F k x5 x6 ∧ F.Nodup ∧ ∀ x, x ∈ F ↔ GR c yes H x := by
  have hn := G_n h
  have hz := size_ok h
  refine siWhile (fun m env S' => S' = S ∧ ∃ F k x5 x6, nlk x5 ∧ nlk x6 ∧ WL c yes H F ∧ k ≤ F.length ∧ (∀ (j : Nat) t, j < k → F[j]? = some t → Done c yes F t c.size) ∧ env = clE c H F k x5 x6 ∧ m = c.n - k) ?_ fuel (c.n - 0) _ S (by unfold fuel; omega) ⟨rfl, H, 0, .un, .un, by simp [nlk], by simp [nlk], ⟨hH.nd, fun x hx => .base hx, fun x hx => hx⟩, Nat.zero_le _, fun j t hj => absurd hj (Nat.not_lt_zero j), rfl, rfl⟩
  rintro m env S' ⟨rfl, F, k, x5, x6, n5, n6, hw, hk, hd, rfl, rfl⟩
  have hlen := hw.len hH
  refine ⟨decide (k < F.length), by simp [clE], ?_⟩
  by_cases hlt : k < F.length
  · rw [if_pos (by simpa using hlt)]
    have hx : F[k]? = some F[k] := List.getElem?_eq_getElem hlt
    have ht := hw.gr F[k] (List.getElem_mem hlt)
    obtain ⟨G, y6, m6, hw2, hd2, hl⟩ := cl_beats S' h hH k hw ht x6 n6
    refine ⟨_, _, ?_, c.n - (k + 1), by omega, rfl, F ++ G, k + 1, .v (.int F[k]), y6, by simp [nlk], m6, hw2, by rw [List.length_append]; omega, fun j t hj hjt => ?_, rfl, rfl⟩
    · have hr := r1_ok (d := eVar 3) (env := clE c H F k (.v (.int F[k])) x6) (S := S') (j := (c.size : Int)) (by simp) (by omega) (by omega)
      rw [show ((c.size : Int)).toNat = c.size by omega] at hr
      have hix := ix_L hx
      simp only [clE] at hl hr ⊢
      generalize (F ++ G).map PV.int = ys at hl
      generalize F.map PV.int = xs at hl hr hix
      simp [clBody, hix, setS_nlk n5, ↓hr, hl]
    · by_cases hjk : j < k
      · rw [List.getElem?_append_left (by omega)] at hjt
        exact (hd j t hjk hjt).up
      · have : j = k := by omega
        subst this
        rw [List.getElem?_append_left (by omega), hx] at hjt
        cases hjt
        exact hd2
  · rw [if_neg (by simpa using hlt)]
    refine ⟨rfl, F, k, x5, x6, rfl, hw.nd, fun x => hw.all fun j t hjt => hd j t ?_ hjt⟩
    have := (List.getElem?_eq_some_iff.mp hjt).1
    omega
theorem ev_closed (S : Sto) (h : c.G) (hH : Fk c.n H) : f_closed [eW c, eI H] S = .ok (eI (rch c H)) S := by
  obtain ⟨env, S', hw, rfl, F, k, x5, x6, rfl, nd, hF⟩ := cl_while S h hH
  have hs : srt ltI F = rch c H := srtI_inc nd (rch_fk hH).2 fun x => (hF x).trans (mem_rch hH).symm
  have hso := sorted_ints F
  rw [hs] at hso
  have hr : f_round_of [.lst [eW c]] S' = .ok (.int (c.size : Int)) S' := M01.ev_round_of S' h
  have hH1 : H.length ≤ 1000 := by have := hH.len; have := G_n h; omega
  have hli : pListK (eI H) = some (.lst (H.map .int)) := rfl
  rw [f_closed, run_s]
  change fin _ (d_closed [.v (eW c), .v (eI H), .un, .un, .un, .un, .un, .un] S') = _
  simp only [clE, clBody, clBeat] at hw
  rw [show ((0 : Nat) : Int) = 0 from rfl] at hw
  have pts : pTuple (.lst ((rch c H).map .int)) = some (eI (rch c H)) := rfl
  have pll : plOf (.lst ((rch c H).map PV.int)) = .val (.lst ((rch c H).map .int)) := rfl
  simp [d_closed, hli, hr, sWhile_s, hw, hso, pts]
theorem ev_ever (S : Sto) (h : c.G) (hH : Fk c.n H) : f_ever [eW c, eI H] S = .ok (eI (rch c H)) S := by
  rw [f_ever, run_s]
  simp [d_ever, ev_look_crowd S h, ev_look_folk S hH.1 hH.2 (by have := hH.len; have := G_n h; omega), ev_closed S h hH]
theorem ev_lot (S : Sto) (h : c.G) (hH : Fk c.n H) {g : Int} (g0 : 0 ≤ g) (g1 : g < c.n) : f_lot [eW c, eI H, .int g] S = if g ∈ rch c H then .ex .none S else .ok (eI (rch c H)) S := by
  have hl : f_look_one [eW c, .int g] S = .ok .non S := M01.ev_look_one S g0 g1
  have hin : pInX (.int g) (eI (rch c H)) = some (.bl (decide (g ∈ rch c H))) := in_T g _
  rw [f_lot, run_s]
  by_cases hg : g ∈ rch c H
  · rw [if_pos hg]
    simp [d_lot, ev_look_crowd S h, ev_look_folk S hH.1 hH.2 (by have := hH.len; have := G_n h; omega), hl, ev_closed S h hH, hin, hg]
  · rw [if_neg hg]
    simp [d_lot, ev_look_crowd S h, ev_look_folk S hH.1 hH.2 (by have := hH.len; have := G_n h; omega), hl, ev_closed S h hH, hin, hg]
end N0

set_option maxRecDepth 100000
set_option maxHeartbeats 1000000
/-! ### shows -/
namespace N0
open PySem Hw Pg M01 Sv
variable {c : Cw} {late : List St3} {H : List Int} {b : Int} {ok : Int → Bool}
theorem for_ret {α : Type} {g : Tgt} {body : Sm} {S : Sto} (enc : α → PV) (R : En → Prop) (p : α → Bool) (v : PV) : ∀ (l : List α) (env : En), (∀ a ∈ l, ∀ env, R env → ∃ env1, g (enc a) env = some env1 ∧ (if p a = true then body env1 S = .rt v S else ∃ env2, body env1 S = .nx env2 S ∧ R env2)) → R env →
    if l.any p = true then forLoop g body (l.map enc) env S = .rt v S else ∃ env', forLoop g body (l.map enc) env S = .nx env' S ∧ R env'
  | [], env, _, h => by simp only [List.any_nil, Bool.false_eq_true, if_false]; exact ⟨env, rfl, h⟩
  | a :: l, env, hs, h => by
    obtain ⟨e1, h1, h2⟩ := hs a (by simp) env h
    rw [List.any_cons]
    cases hp : p a with
    | true =>
      rw [hp, if_pos rfl] at h2
      simp only [Bool.true_or, if_true, List.map_cons]
      simp [forLoop, h1, h2]
    | false =>
      rw [hp, if_neg (by simp)] at h2
      obtain ⟨e2, h3, h4⟩ := h2
      have ih := for_ret enc R p v l e2 (fun x hx => hs x (by simp [hx])) h4
      simp only [Bool.false_or, List.map_cons]
      rw [M01.for_cons h1 h3]
      exact ih
def lkB (c : Cw) (A : List Int) (k : Nat) (t : Int) : Bool := c.L [] t (k : Int) && (c.E [] t (k : Int)).any fun x => !decide (x ∈ A)
def shB (c : Cw) (A H : List Int) (g : Int) : Bool := !decide (g ∈ A) && (H.all fun x => decide (x ∈ A)) && !(List.range c.size).any fun k => A.any (lkB c A k)
theorem pull_any {α : Type} (l : List α) (q : α → Bool) : pAny (.lst (l.map fun a => .bl (q a))) = some (.bl (l.any q)) := by
  show (blsOf _).map (fun bs => PV.bl (bs.any id)) = _
  rw [M01.bls_map]
  simp [List.any_map]
theorem pull_all {α : Type} (l : List α) (q : α → Bool) : pAll (.lst (l.map fun a => .bl (q a))) = some (.bl (l.all q)) := by
  show (blsOf _).map (fun bs => PV.bl (bs.all id)) = _
  rw [M01.bls_map]
  simp [List.all_map]
theorem ev_shows (S : Sto) (h : c.G) {A : List Int} (hA : Fk c.n A) (hH : Fk c.n H) {g : Int} (g0 : 0 ≤ g) (g1 : g < c.n) : f_shows [eW c, eI A, eI H, .int g] S = .ok (.bl (shB c A H g)) S := by
  have hn := G_n h
  have hz := size_ok h
  have hl : f_look_one [eW c, .int g] S = .ok .non S := M01.ev_look_one S g0 g1
  have hin : pInX (.int g) (eI A) = some (.bl (decide (g ∈ A))) := in_T g _
  have hH1 : H.length ≤ 8 := by have := hH.len; omega
  have hA1 : A.length ≤ 8 := by have := hA.len; omega
  have hal := elc1 (it := iP (pN 2)) (vs := [6]) (g := tgN 6) (e := eP2 pInX (pN 6) (pN 1)) (env := [.v (eW c), .v (eI A), .v (eI H), .v (.int g), .un, .un, .un]) (env0 := [.v (eW c), .v (eI A), .v (eI H), .v (.int g), .un, .un, .un]) (S := S) H PV.int (fun x => .bl (decide (x ∈ A)))
    (by simp [eI]) rfl (by omega) (fun x hx => ⟨_, rfl, by simp [show pInX (.int x) (eI A) = _ from in_T x A]⟩)
  have hal2 := pull_all H fun x => decide (x ∈ A)
  have hr : f_round_of [.lst [eW c]] S = .ok (.int (c.size : Int)) S := M01.ev_round_of S h
  have hr1 := r1_ok (d := eCall f_round_of (esCons (eLst (esCons (eVar 0) (esNil))) (esNil))) (env := [.v (eW c), .v (eI A), .v (eI H), .v (.int g), .un, .un, .un]) (S := S) (j := (c.size : Int)) (by simp [hr]) (by omega) (by omega)
  rw [show ((c.size : Int)).toNat = c.size by omega] at hr1
  -- the loops
  have hfor := for_ret (g := tgN 4) (S := S) (body := (sSeq (sFor (iP (pN 1)) (tgN 5) (sSeq (sIf (eAnd (eCall f_may_tell (esCons (eVar 0) (esCons (eVar 5) (esCons (eVar 4) (esCons (eTup (esNil)) (esNil)))))) (eP1 pAny (pA (eLC (iP (pA (eCall f_ears (esCons (eVar 0) (esCons (eVar 5) (esCons (eVar 4) (esCons (eTup (esNil)) (esNil)))))))) [6] (tgN 6) (eYes) (eP2 pNotInX (pN 6) (pN 1)))))) (sSeq (sRet (eC (.bl false))) (sNil)) (sNil)) (sNil))) (sNil))) eK
    (fun env => ∃ x4 x5, nlk x4 ∧ nlk x5 ∧ env = [.v (eW c), .v (eI A), .v (eI H), .v (.int g), x4, x5, .un]) (fun k => A.any (lkB c A k)) (.bl false) (List.range c.size) [.v (eW c), .v (eI A), .v (eI H), .v (.int g), .un, .un, .un]
    (fun k hk env => by
      rintro ⟨x4, x5, n4, n5, rfl⟩
      refine ⟨[.v (eW c), .v (eI A), .v (eI H), .v (.int g), .v (.int (k : Int)), x5, .un], by simp [eK, setS_nlk n4], ?_⟩
      have hin := for_ret (g := tgN 5) (S := S) (body := (sSeq (sIf (eAnd (eCall f_may_tell (esCons (eVar 0) (esCons (eVar 5) (esCons (eVar 4) (esCons (eTup (esNil)) (esNil)))))) (eP1 pAny (pA (eLC (iP (pA (eCall f_ears (esCons (eVar 0) (esCons (eVar 5) (esCons (eVar 4) (esCons (eTup (esNil)) (esNil)))))))) [6] (tgN 6) (eYes) (eP2 pNotInX (pN 6) (pN 1)))))) (sSeq (sRet (eC (.bl false))) (sNil)) (sNil)) (sNil))) PV.int
        (fun env => ∃ x5, nlk x5 ∧ env = [.v (eW c), .v (eI A), .v (eI H), .v (.int g), .v (.int (k : Int)), x5, .un]) (lkB c A k) (.bl false) A [.v (eW c), .v (eI A), .v (eI H), .v (.int g), .v (.int (k : Int)), x5, .un]
        (fun t ht env => by
          rintro ⟨x5, n5, rfl⟩
          obtain ⟨t0, t1⟩ := hA.1 t ht
          refine ⟨[.v (eW c), .v (eI A), .v (eI H), .v (.int g), .v (.int (k : Int)), .v (.int t), .un], by simp [setS_nlk n5], ?_⟩
          by_cases hL : c.L [] t (k : Int) = true
          · have hdc := elc1 (it := iP (pA (eCall f_ears (esCons (eVar 0) (esCons (eVar 5) (esCons (eVar 4) (esCons (eTup (esNil)) (esNil)))))))) (vs := [6]) (g := tgN 6) (e := eP2 pNotInX (pN 6) (pN 1)) (env := [.v (eW c), .v (eI A), .v (eI H), .v (.int g), .v (.int (k : Int)), .v (.int t), .un]) (env0 := [.v (eW c), .v (eI A), .v (eI H), .v (.int g), .v (.int (k : Int)), .v (.int t), .un]) (S := S) (c.E [] t (k : Int)) PV.int (fun x => .bl (!decide (x ∈ A)))
              (by simp [ev_E0 S h (k : Int) t0 t1, eI]) rfl (by have := E_len (late := []) (t := t) (b := (k : Int)) h; omega) (fun x hx => ⟨_, rfl, by simp [show pNotInX (.int x) (eI A) = _ from notin_T x A]⟩)
            have hpa := pull_any (c.E [] t (k : Int)) fun x => !decide (x ∈ A)
            have hlk : lkB c A k t = (c.E [] t (k : Int)).any fun x => !decide (x ∈ A) := by unfold lkB; rw [hL]; rfl
            rw [hlk]
            generalize (c.E [] t (k : Int)).map (fun x => PV.bl (!decide (x ∈ A))) = ys at hdc hpa
            cases hb : (c.E [] t (k : Int)).any fun x => !decide (x ∈ A) with
            | true =>
              rw [hb] at hpa
              rw [if_pos rfl]
              simp [ev_L0 S h (k : Int) t0 t1, hL, ↓hdc, hpa]
            | false =>
              rw [hb] at hpa
              rw [if_neg (by simp)]
              exact ⟨_, by simp [ev_L0 S h (k : Int) t0 t1, hL, ↓hdc, hpa], .v (.int t), by simp [nlk], rfl⟩
          · have hL' : c.L [] t (k : Int) = false := by simpa using hL
            have hlk : lkB c A k t = false := by unfold lkB; rw [hL']; rfl
            rw [hlk, if_neg (by simp)]
            exact ⟨_, by simp [ev_L0 S h (k : Int) t0 t1, hL'], .v (.int t), by simp [nlk], rfl⟩)
        ⟨x5, n5, rfl⟩
      have itA : itemsOf (eI A) = some (A.map .int) := rfl
      cases hb : A.any (lkB c A k) with
      | true =>
        rw [hb, if_pos rfl] at hin
        rw [if_pos rfl]
        simp [itA, hin]
      | false =>
        rw [hb, if_neg (by simp)] at hin
        obtain ⟨env', h1, x5', n5', rfl⟩ := hin
        rw [if_neg (by simp)]
        exact ⟨_, by simp [itA, h1], .v (.int (k : Int)), x5', by simp [nlk], n5', rfl⟩)
    ⟨.un, .un, by simp [nlk], by simp [nlk], rfl⟩
  rw [f_shows, run_s]
  change fin _ (d_shows [.v (eW c), .v (eI A), .v (eI H), .v (.int g), .un, .un, .un] S) = _
  have lA := ev_look_folk S hA.1 hA.2 (by omega)
  have lH := ev_look_folk S hH.1 hH.2 (by omega)
  unfold shB
  generalize H.map (fun x => PV.bl (decide (x ∈ A))) = ys at hal hal2
  by_cases hg : g ∈ A
  · simp [d_shows, ev_look_crowd S h, lA, lH, hl, hin, hg]
  · cases ha : H.all fun x => decide (x ∈ A) with
    | false =>
      rw [ha] at hal2
      simp [d_shows, ev_look_crowd S h, lA, lH, hl, hin, hg, ↓hal, hal2]
    | true =>
      rw [ha] at hal2
      cases hb : (List.range c.size).any fun k => A.any (lkB c A k) with
      | true =>
        rw [hb, if_pos rfl] at hfor
        simp [d_shows, ev_look_crowd S h, lA, lH, hl, hin, hg, ↓hal, hal2, ↓hr1, hfor]
      | false =>
        rw [hb, if_neg (by simp)] at hfor
        obtain ⟨env', h1, x4, x5, n4, n5, rfl⟩ := hfor
        simp [d_shows, ev_look_crowd S h, lA, lH, hl, hin, hg, ↓hal, hal2, ↓hr1, h1]
end N0

set_option maxRecDepth 100000
set_option maxHeartbeats 1000000
/-! ### refusals told -/
namespace N0
open PySem Hw Pg M01 Sv
variable {c : Cw} {late : List St3} {H : List Int} {b : Int}
def kTry (i j : Nat) (r : RS) : RS := match r with
  | .ex k env S => kSt ((setV j (.v (.exc k)) env).bind (setV i .un)) S
  | r => r
@[simp] theorem kTry_n {i j : Nat} {env : En} {S : Sto} : kTry i j (.nx env S) = .nx env S := rfl
@[simp] theorem kTry_r {i j : Nat} {v : PV} {S : Sto} : kTry i j (.rt v S) = .rt v S := rfl
@[simp] theorem kTry_x {i j : Nat} {k : Kx} {env : En} {S : Sto} : kTry i j (.ex k env S) = kSt ((setV j (.v (.exc k)) env).bind (setV i .un)) S := rfl
@[simp] theorem sTry_s {i j : Nat} {d : Sm} {env : En} {S : Sto} : sTry i j d env S = kTry i j (d env S) := by
  unfold sTry kTry kSt; cases d env S <;> rfl
@[simp] theorem isEx_s {f : Kx → Bool} {k : Kx} : pIsEx f (.exc k) = some (.bl (f k)) := rfl
@[simp] theorem isn_exc {k : Kx} : pIs (.exc k) .non = some (.bl false) := rfl
@[simp] theorem isn_str {k : Str} : pIs (.str k) .non = some (.bl false) := rfl
@[simp] theorem isnt_str {k : Str} : pIsNot (.str k) .non = some (.bl true) := rfl
@[simp] theorem isn_eI {l : List Int} : pIs (eI l) .non = some (.bl false) := rfl
def nmK : Kx → Str
  | .crowd => "crowd" | .folk => "folk" | .beat => "beat" | .row => "row" | .notes => "notes" | .paper => "paper" | .text => "text" | .none => "none"
theorem cnt_bls (l : List Bool) : pCntB true (.lst (l.map .bl)) = some (.int (l.count true : Nat)) := by
  have h : blsOf (l.map .bl) = some l := by have := M01.bls_map id l; simpa using this
  simp [pCntB, h]
theorem idx_bls (l : List Bool) (hm : true ∈ l) : pIdxB true (.lst (l.map .bl)) = some (.int (l.idxOf true : Nat)) := by
  have h : blsOf (l.map .bl) = some l := by have := M01.bls_map id l; simpa using this
  simp [pIdxB, h, hm]
theorem ev_refusal (S : Sto) (k : Kx) : f_law_refusal [.exc k] S = .ok (.str (nmK k)) S := by
  have e1 : pAdd (.lst [.bl (kOne .crowd k), .bl (kOne .folk k), .bl (kOne .beat k)]) (.lst [.bl (kOne .row k), .bl (kOne .notes k), .bl (kOne .paper k)]) = some (.lst [.bl (kOne .crowd k), .bl (kOne .folk k), .bl (kOne .beat k), .bl (kOne .row k), .bl (kOne .notes k), .bl (kOne .paper k)]) := rfl
  have e2 : pAdd (.lst [.bl (kOne .crowd k), .bl (kOne .folk k), .bl (kOne .beat k), .bl (kOne .row k), .bl (kOne .notes k), .bl (kOne .paper k)]) (.lst [.bl (kOne .text k), .bl (kOne .none k)]) = some (.lst ([kOne .crowd k, kOne .folk k, kOne .beat k, kOne .row k, kOne .notes k, kOne .paper k, kOne .text k, kOne .none k].map .bl)) := rfl
  have e3 := cnt_bls [kOne .crowd k, kOne .folk k, kOne .beat k, kOne .row k, kOne .notes k, kOne .paper k, kOne .text k, kOne .none k]
  have e3' : [kOne .crowd k, kOne .folk k, kOne .beat k, kOne .row k, kOne .notes k, kOne .paper k, kOne .text k, kOne .none k].count true = 1 := by cases k <;> rfl
  have e4 := idx_bls [kOne .crowd k, kOne .folk k, kOne .beat k, kOne .row k, kOne .notes k, kOne .paper k, kOne .text k, kOne .none k] (by cases k <;> decide)
  rw [e3'] at e3
  generalize ([kOne .crowd k, kOne .folk k, kOne .beat k, kOne .row k, kOne .notes k, kOne .paper k, kOne .text k, kOne .none k].map PV.bl) = ys at e2 e3 e4
  have e5 : pIdx (.lst [.str "crowd", .str "folk", .str "beat", .str "row", .str "notes", .str "paper", .str "text", .str "none"]) (.int ([kOne .crowd k, kOne .folk k, kOne .beat k, kOne .row k, kOne .notes k, kOne .paper k, kOne .text k, kOne .none k].idxOf true : Nat)) = some (.str (nmK k)) := by cases k <;> rfl
  rw [f_law_refusal, run_s]
  simp [d_law_refusal, e1, e2, e3, e4, e5, kAny]
theorem ev_told (S : Sto) (h : c.G) (hH : Fk c.n H) {g : Int} (g0 : 0 ≤ g) (g1 : g < c.n) : f_law_told [eW c, eI H, .int g] S = .ok (if g ∈ rch c H then .str "none" else eI (rch c H)) S := by
  have hl := ev_lot S h hH g0 g1
  rw [f_law_told, run_s]
  change fin _ (d_law_told [.v (eW c), .v (eI H), .v (.int g), .un, .un, .un] S) = _
  by_cases hg : g ∈ rch c H
  · rw [if_pos hg] at hl ⊢
    simp [d_law_told, hl, ev_refusal, nmK]
  · rw [if_neg hg] at hl ⊢
    simp [d_law_told, hl]
theorem sh_ints : ∀ (l : List Int) (n : Nat), PV.shL (l.map .int) n = true
  | [], _ => rfl
  | a :: l, n => by
    show (PV.sh (.int a) n && PV.shL (l.map .int) n) = true
    rw [sh_ints l n]; rfl
theorem eqL_ints : ∀ l m : List Int, PV.eqL (l.map .int) (m.map .int) = decide (l = m)
  | [], [] => by simp [PV.eqL]
  | [], _ :: _ => by simp [PV.eqL]
  | _ :: _, [] => by simp [PV.eqL]
  | a :: l, d :: m => by
    show (PV.eq (.int a) (.int d) && PV.eqL (l.map .int) (m.map .int)) = _
    rw [eqL_ints l m, show PV.eq (.int a) (.int d) = decide (a = d) from rfl]
    by_cases h : a = d <;> by_cases h2 : l = m <;> simp [h, h2]
theorem eq_T (l m : List Int) : pEq (eI l) (eI m) = some (.bl (decide (l = m))) := by
  have h1 : ∀ l : List Int, PV.sh (eI l) 16 = true := fun l => sh_ints l 15
  have h2 : (eI l).eq (eI m) = decide (l = m) := eqL_ints l m
  unfold pEq
  rw [h1, h1, h2]
  rfl
theorem ne_T (l m : List Int) : pNeK (eI l) (eI m) = some (.bl (!decide (l = m))) := by
  have h1 : ∀ l : List Int, PV.sh (eI l) 16 = true := fun l => sh_ints l 15
  have h2 : (eI l).eq (eI m) = decide (l = m) := eqL_ints l m
  show (if (eI l).sh 16 && (eI m).sh 16 then some (PV.bl (!(eI l).eq (eI m))) else none) = _
  rw [h1, h1, h2]
  rfl
theorem eq_L (l m : List Int) : pEq (eL l) (eL m) = some (.bl (decide (l = m))) := by
  have h1 : ∀ l : List Int, PV.sh (eL l) 16 = true := fun l => sh_ints l 15
  have h2 : (eL l).eq (eL m) = decide (l = m) := eqL_ints l m
  unfold pEq
  rw [h1, h1, h2]
  rfl
theorem ev_earliest0 (S : Sto) (h : c.G) (hH : Fk c.n H) (b0 : 0 ≤ b) (b1 : b ≤ 1000000000000) : f_earliest [eW c, eI H, .int b, .tup []] S = .ok (eOs ((List.range c.n).map fun k : Nat => ear c [] H b (k : Int))) S := by
  have e : eLate [] = .tup [] := rfl
  rw [← e]
  exact ev_earliest (late := []) S h hH ⟨by simp, by simp, List.Pairwise.nil⟩ b0 b1 settled_nil
theorem ev_firsts0 (S : Sto) (h : c.G) (hH : Fk c.n H) (n : Nat) (b0 : -1000 ≤ b) (b1 : b + n ≤ 1000000) : ∃ s, f_law_firsts [eW c, eI H, .int b, .tup [], .int (n : Int)] S = .ok (.dI (eD s)) S ∧ Rel c [] H b n s := by
  have e : eLate [] = .tup [] := rfl
  rw [← e]
  exact ev_firsts (late := []) S h hH n b0 b1
/-! leaving a lot -/
def lvT (c : Cw) (A : List Int) (k : Nat) (t : Int) : List Int := if c.L [] t (k : Int) = true then (c.E [] t (k : Int)).filter fun x => !decide (x ∈ A) else []
theorem lvT_nil {A : List Int} {k : Nat} {t : Int} : lvT c A k t = [] ↔ lkB c A k t = false := by
  unfold lvT lkB
  cases c.L [] t (k : Int) with
  | false => simp
  | true => simp [List.filter_eq_nil_iff]
theorem lvT_len (h : c.G) {A : List Int} {k : Nat} {t : Int} : (lvT c A k t).length ≤ 8 := by
  unfold lvT
  split
  · exact Nat.le_trans (List.length_filter_le _ _) (E_len h)
  · simp
theorem fm_len {α : Type} {f : α → List Int} {m : Nat} : ∀ (l : List α), (∀ a ∈ l, (f a).length ≤ m) → (l.flatMap f).length ≤ l.length * m
  | [], _ => by simp
  | a :: l, h => by
    have h1 := fm_len l fun x hx => h x (by simp [hx])
    have h2 := h a (by simp)
    rw [List.flatMap_cons, List.length_append, List.length_cons, Nat.add_mul]
    omega
theorem leaves_nil {A : List Int} {g : Int} : ((A.filter fun x => decide (x = g)) ++ (H.filter fun x => !decide (x ∈ A)) ++ ((List.range c.size).flatMap fun k => A.flatMap (lvT c A k)) = []) ↔ shB c A H g = true := by
  unfold shB
  simp only [List.append_eq_nil_iff, List.filter_eq_nil_iff, List.flatMap_eq_nil_iff, lvT_nil, Bool.and_eq_true, Bool.not_eq_true', List.all_eq_true, List.any_eq_false, decide_eq_true_eq, decide_eq_false_iff_not, Bool.not_eq_true]
  constructor
  · rintro ⟨⟨h1, h2⟩, h3⟩
    exact ⟨⟨fun hg => h1 g hg rfl, fun x hx => by simpa using h2 x hx⟩, fun k hk => h3 k hk⟩
  · rintro ⟨⟨h1, h2⟩, h3⟩
    refine ⟨⟨fun x hx e => h1 (by rw [← e]; exact hx), fun x hx => by simpa using h2 x hx⟩, fun k hk t ht => ?_⟩
    exact h3 k hk t ht
theorem shB_rch (hH : Fk c.n H) {A : List Int} {g : Int} (h : shB c A H g = true) : g ∉ rch c H := by
  rw [mem_rch hH]
  unfold shB at h
  simp only [Bool.and_eq_true, Bool.not_eq_true', List.all_eq_true, decide_eq_true_eq, decide_eq_false_iff_not] at h
  obtain ⟨⟨h1, h2⟩, h3⟩ := h
  rw [List.any_eq_false] at h3
  have key : ∀ x, GR c yes H x → x ∈ A := fun x gr => by
    induction gr with
    | base q => exact h2 _ q
    | @step t x k ht _ hk hL hE ih =>
      have := h3 k (List.mem_range.mpr hk)
      simp only [Bool.not_eq_true] at this
      rw [List.any_eq_false] at this
      have := this t ih
      unfold lkB at this
      rw [hL] at this
      simp only [Bool.true_and, Bool.not_eq_true] at this
      rw [List.any_eq_false] at this
      simpa using this x hE
  exact fun gr => h1 (key g gr)
theorem shB_own (hH : Fk c.n H) {g : Int} (hg : g ∉ rch c H) : shB c (rch c H) H g = true := by
  rw [← leaves_nil]
  simp only [List.append_eq_nil_iff, List.filter_eq_nil_iff, List.flatMap_eq_nil_iff, lvT_nil]
  refine ⟨⟨fun x hx => ?_, fun x hx => ?_⟩, fun k hk t ht => ?_⟩
  · simp; rintro rfl; exact hg hx
  · simp [(mem_rch hH).mpr (.base hx)]
  · unfold lkB
    cases hL : c.L [] t (k : Int) with
    | false => rfl
    | true =>
      simp only [Bool.true_and]
      rw [List.any_eq_false]
      intro x hx
      simp [(mem_rch hH).mpr (.step ((mem_rch hH).mp ht) rfl (List.mem_range.mp hk) hL hx)]
theorem rch_rch (hH : Fk c.n H) : rch c (rch c H) = rch c H := by
  refine inc_eq (rch_fk (rch_fk hH)).2 (rch_fk hH).2 fun x => ?_
  rw [mem_rch (rch_fk hH), mem_rch hH]
  constructor
  · intro g
    induction g with
    | base q => exact (mem_rch hH).mp q
    | step _ ho hk hL hE ih => exact .step ih ho hk hL hE
  · intro g; exact .base ((mem_rch hH).mpr g)
theorem gr_nil (x : Int) : ¬ GR c yes [] x := fun g => by
  induction g with
  | base q => cases q
  | step _ _ _ _ _ ih => exact ih
theorem rch_nil : rch c [] = [] := by
  have hH : Fk c.n [] := ⟨by simp, List.Pairwise.nil⟩
  cases e : rch c [] with
  | nil => rfl
  | cons a l =>
    have g := (mem_rch hH).mp (show a ∈ rch c [] by rw [e]; simp)
    exact absurd g (gr_nil a)
end N0

set_option maxRecDepth 100000
set_option maxHeartbeats 1000000
/-! ### silent -/
namespace N0
open PySem Hw Pg M01 Sv
variable {c : Cw} {late : List St3} {H : List Int} {b : Int}
def okd (d : Int) : Int → Bool := fun t => !decide (t = d)
abbrev siE (c : Cw) (H : List Int) (dm : Int) (F : List Int) (k : Nat) (x6 x7 : SV) : En := [.v (eW c), .v (eI H), .v (.int dm), .own (.lst (F.map .int)), .v (.int (c.size : Int)), .v (.int (k : Int)), x6, x7, .un]
def siBeat : Sm := (sSeq (sIf (eAnd (eP2 pNeK (pN 6) (pN 2)) (eCall f_may_tell (esCons (eVar 0) (esCons (eVar 6) (esCons (eVar 7) (esCons (eTup (esNil)) (esNil))))))) (sSeq (sExt 3 (eLC (iP (pA (eCall f_ears (esCons (eVar 0) (esCons (eVar 6) (esCons (eVar 7) (esCons (eTup (esNil)) (esNil)))))))) [8] (tgN 8) (eP2 pNotInX (pN 8) (pN 3)) (eVar 8))) (sNil)) (sNil)) (sNil))
theorem si_beats (S : Sto) (h : c.G) (hH : Fk c.n H) (k : Nat) {F : List Int} {t : Int} (dm : Int) (hF : WL c (okd dm) H F) (ht : GR c (okd dm) H t) (x6 : SV) (n6 : nlk x6) :
    ∃ G y6, nlk y6 ∧ WL c (okd dm) H (F ++ G) ∧ Done c (okd dm) (F ++ G) t c.size ∧ forLoop (tgN 7) siBeat ((List.range c.size).map eK) (siE c H dm F k (.v (.int t)) x6) S = .nx (siE c H dm (F ++ G) k (.v (.int t)) y6) S := by
  have hn := G_n h
  have hz := size_ok h
  obtain ⟨t0, t1⟩ := ht.fk hH
  obtain ⟨env', h1, G, y6, m6, hw, hd, rfl⟩ := for_pre (g := tgN 7) (S := S) (body := siBeat) eK
    (fun p env => ∃ G y6, nlk y6 ∧ WL c (okd dm) H (F ++ G) ∧ Done c (okd dm) (F ++ G) t p.length ∧ env = siE c H dm (F ++ G) k (.v (.int t)) y6) (List.range c.size) [] (siE c H dm F k (.v (.int t)) x6)
    (fun m p q env e => by
      rintro ⟨G, y6, m6, hw, hd, rfl⟩
      obtain ⟨em, hm⟩ := range_at (show List.range c.size = p ++ m :: q from e)
      have hlen := hw.len hH
      by_cases hLo : okd dm t = true ∧ c.L [] t (m : Int) = true
      · obtain ⟨hok, hL⟩ := hLo
        have hne : ¬ t = dm := by unfold okd at hok; simpa using hok
        have hdc := elc (it := iP (pA (eCall f_ears (esCons (eVar 0) (esCons (eVar 6) (esCons (eVar 7) (esCons (eTup (esNil)) (esNil)))))))) (vs := [8]) (g := tgN 8) (c := eP2 pNotInX (pN 8) (pN 3)) (e := eVar 8)
          (env := siE c H dm (F ++ G) k (.v (.int t)) (.v (.int (m : Int)))) (env0 := siE c H dm (F ++ G) k (.v (.int t)) (.v (.int (m : Int)))) (S := S) (c.E [] t (m : Int)) PV.int (fun x => !decide (x ∈ F ++ G)) PV.int
          (by simp [ev_E0 S h (m : Int) t0 t1, eI]) rfl (by have := E_len (late := []) (t := t) (b := (m : Int)) h; omega) (fun x hx => ⟨_, rfl, by simp [notin_L, -List.map_append, -List.mem_append], fun _ => by simp⟩)
        have hw2 := hw.tell (b := 0) (by simp) ht hm hok hL
        have hlen2 := hw2.len hH
        refine ⟨siE c H dm (F ++ G) k (.v (.int t)) (.v (.int (m : Int))), siE c H dm (F ++ (G ++ (c.E [] t (m : Int)).filter fun x => !decide (x ∈ F ++ G))) k (.v (.int t)) (.v (.int (m : Int))), by simp [siE, eK, setS_nlk m6, -List.map_append], ?_, G ++ (c.E [] t (m : Int)).filter fun x => !decide (x ∈ F ++ G), _, by simp [nlk], by rw [← List.append_assoc]; exact hw2, ?_, rfl⟩
        · rw [← List.append_assoc]
          have l1 : ((F ++ G).map PV.int).length ≤ 1000000 := by rw [List.length_map]; omega
          have l2 : (((c.E [] t (m : Int)).filter fun x => !decide (x ∈ F ++ G)).map PV.int).length ≤ 1000000 := by
            rw [List.length_append] at hlen2
            rw [List.length_map]; omega
          have hmap : ((F ++ G) ++ (c.E [] t (m : Int)).filter fun x => !decide (x ∈ F ++ G)).map PV.int = (F ++ G).map PV.int ++ ((c.E [] t (m : Int)).filter fun x => !decide (x ∈ F ++ G)).map PV.int := List.map_append
          simp only [siE] at hdc ⊢
          rw [hmap]
          generalize ((c.E [] t (m : Int)).filter fun x => !decide (x ∈ F ++ G)).map PV.int = ys at hdc l2
          generalize (F ++ G).map PV.int = xs at hdc l1
          simp [siBeat, ev_L0 S h (m : Int) t0 t1, hL, hne, ↓hdc, l1, l2, -List.length_map]
        · intro d hd' ho' hL' x hx
          rw [← List.append_assoc]
          by_cases hdm : d = m
          · subst hdm; exact mem_tell hx
          · exact List.mem_append.mpr (.inl (hd d (by rw [List.length_append] at hd'; simp at hd'; omega) ho' hL' x hx))
      · refine ⟨siE c H dm (F ++ G) k (.v (.int t)) (.v (.int (m : Int))), siE c H dm (F ++ G) k (.v (.int t)) (.v (.int (m : Int))), by simp [siE, eK, setS_nlk m6, -List.map_append], ?_, G, _, by simp [nlk], hw, ?_, rfl⟩
        · simp only [siE]
          generalize (F ++ G).map PV.int = xs
          by_cases hne : t = dm
          · simp [siBeat, hne]
          · have hL' : c.L [] t (m : Int) = false := by
              cases q : c.L [] t (m : Int) with
              | false => rfl
              | true => exact absurd ⟨by unfold okd; simp [hne], q⟩ hLo
            simp [siBeat, ev_L0 S h (m : Int) t0 t1, hne, hL']
        · intro d hd' ho' hL' x hx
          by_cases hdm : d = m
          · subst hdm; exact absurd ⟨ho', hL'⟩ hLo
          · exact hd d (by rw [List.length_append] at hd'; simp at hd'; omega) ho' hL' x hx)
    ⟨[], x6, n6, by simpa using hF, fun d hd => absurd hd (Nat.not_lt_zero d), by simp [siE]⟩
  exact ⟨G, y6, m6, hw, by simpa using hd, h1⟩
def siBody : Sm := (sSeq (sPut (tgN 6) (eP2 pIdx (pN 3) (pN 5))) (sSeq (sFor (iR1 (eVar 4)) (tgN 7) siBeat) (sSeq (sAug 5 pAddI (eC (.int 1))) (sNil))))
theorem si_while (S : Sto) (h : c.G) (hH : Fk c.n H) (dm : Int) : ∃ env S', whileLoop (eP2 pLt (pN 5) (pA (eP1 pLen (pN 3)))) siBody fuel (siE c H dm H 0 .un .un) S = .nx env S' ∧ S' = S ∧ ∃ F k x5 x6, env = siE c H dm F k x5 x6 ∧ F.Nodup ∧ ∀ x, x ∈ F ↔ GR c (okd dm) H x := by
  have hn := G_n h
  have hz := size_ok h
  refine siWhile (fun m env S' => S' = S ∧ ∃ F k x5 x6, nlk x5 ∧ nlk x6 ∧ WL c (okd dm) H F ∧ k ≤ F.length ∧ (∀ (j : Nat) t, j < k → F[j]? = some t → Done c (okd dm) F t c.size) ∧ env = siE c H dm F k x5 x6 ∧ m = c.n - k) ?_ fuel (c.n - 0) _ S (by unfold fuel; omega) ⟨rfl, H, 0, .un, .un, by simp [nlk], by simp [nlk], ⟨hH.nd, fun x hx => .base hx, fun x hx => hx⟩, Nat.zero_le _, fun j t hj => absurd hj (Nat.not_lt_zero j), rfl, rfl⟩
  rintro m env S' ⟨rfl, F, k, x5, x6, n5, n6, hw, hk, hd, rfl, rfl⟩
  have hlen := hw.len hH
  refine ⟨decide (k < F.length), by simp [siE], ?_⟩
  by_cases hlt : k < F.length
  · rw [if_pos (by simpa using hlt)]
    have hx : F[k]? = some F[k] := List.getElem?_eq_getElem hlt
    have ht := hw.gr F[k] (List.getElem_mem hlt)
    obtain ⟨G, y6, m6, hw2, hd2, hl⟩ := si_beats S' h hH k dm hw ht x6 n6
    refine ⟨_, _, ?_, c.n - (k + 1), by omega, rfl, F ++ G, k + 1, .v (.int F[k]), y6, by simp [nlk], m6, hw2, by rw [List.length_append]; omega, fun j t hj hjt => ?_, rfl, rfl⟩
    · have hr := r1_ok (d := eVar 4) (env := siE c H dm F k (.v (.int F[k])) x6) (S := S') (j := (c.size : Int)) (by simp) (by omega) (by omega)
      rw [show ((c.size : Int)).toNat = c.size by omega] at hr
      have hix := ix_L hx
      simp only [siE] at hl hr ⊢
      generalize (F ++ G).map PV.int = ys at hl
      generalize F.map PV.int = xs at hl hr hix
      simp [siBody, hix, setS_nlk n5, ↓hr, hl]
    · by_cases hjk : j < k
      · rw [List.getElem?_append_left (by omega)] at hjt
        exact (hd j t hjk hjt).up
      · have : j = k := by omega
        subst this
        rw [List.getElem?_append_left (by omega), hx] at hjt
        cases hjt
        exact hd2
  · rw [if_neg (by simpa using hlt)]
    refine ⟨rfl, F, k, x5, x6, rfl, hw.nd, fun x => hw.all fun j t hjt => hd j t ?_ hjt⟩
    have := (List.getElem?_eq_some_iff.mp hjt).1
    omega
theorem ev_silent (S : Sto) (h : c.G) (hH : Fk c.n H) (dm : Int) : ∃ F, f_silent [eW c, eI H, .int dm] S = .ok (eL F) S ∧ ∀ x, x ∈ F ↔ GR c (okd dm) H x := by
  obtain ⟨env, S', hw, rfl, F, k, x5, x6, rfl, nd, hF⟩ := si_while S h hH dm
  refine ⟨F, ?_, hF⟩
  have hr : f_round_of [.lst [eW c]] S' = .ok (.int (c.size : Int)) S' := M01.ev_round_of S' h
  have hli : pListK (eI H) = some (.lst (H.map .int)) := rfl
  rw [f_silent, run_s]
  change fin _ (d_silent [.v (eW c), .v (eI H), .v (.int dm), .un, .un, .un, .un, .un, .un] S') = _
  simp only [siE, siBody, siBeat] at hw
  rw [show ((0 : Nat) : Int) = 0 from rfl] at hw
  simp [d_silent, hli, hr, sWhile_s, hw]
  rfl
end N0

set_option maxRecDepth 100000
set_option maxHeartbeats 1000000
/-! ### the law's own silent -/
namespace N0
open PySem Hw Pg M01 Sv
variable {c : Cw} {late : List St3} {H : List Int} {b : Int}
abbrev duE (c : Cw) (H : List Int) (dm : Int) (F : List Int) (k : Nat) (x6 x7 : SV) : En := [.v (eW c), .v (eI H), .v (.int dm), .v (.int (c.size : Int)), .v (eL F), .v (.int (k : Int)), x6, x7, .un]
def duBeat : Sm := (sSeq (sPut (tgN 7) (eCall f_law_let (esCons (eVar 0) (esCons (eP2 pIdx (pN 4) (pN 5)) (esCons (eVar 6) (esCons (eTup (esNil)) (esNil))))))) (sSeq (sPut (tgN 4) (eP2 pAdd (pN 4) (pA (eLC (iP (pA (eIf (eP2 pIs (pN 7) (pA (eC .non))) (eLst (esNil)) (eVar 7)))) [8] (tgN 8) (eP2 pNotInX (pN 8) (pN 4)) (eVar 8))))) (sNil)))
theorem ev_let0 (S : Sto) (h : c.G) {t : Int} (b : Int) (g0 : 0 ≤ t) (g1 : t < c.n) : f_law_let [eW c, .int t, .int b, .tup []] S = .ok (if c.L [] t b = true then eL (c.E [] t b) else .non) S := by
  have e : eLate [] = .tup [] := rfl
  rw [← e]; exact N0.ev_law_let (late := []) S h b g0 g1
theorem du_beats (S : Sto) (h : c.G) (hH : Fk c.n H) (k : Nat) {F : List Int} {t : Int} (dm : Int) (hF : WL c (okd dm) H F) (hk : F[k]? = some t) (ho : okd dm t = true) (x6 x7 : SV) (n6 : nlk x6) (n7 : nlk x7) :
    ∃ G y6 y7, nlk y6 ∧ nlk y7 ∧ WL c (okd dm) H (F ++ G) ∧ Done c (okd dm) (F ++ G) t c.size ∧ forLoop (tgN 6) duBeat ((List.range c.size).map eK) (duE c H dm F k x6 x7) S = .nx (duE c H dm (F ++ G) k y6 y7) S := by
  have hn := G_n h
  have hz := size_ok h
  have ht := hF.gr t (List.mem_of_getElem? hk)
  obtain ⟨t0, t1⟩ := ht.fk hH
  obtain ⟨env', h1, G, y6, y7, m6, m7, hw, hd, rfl⟩ := for_pre (g := tgN 6) (S := S) (body := duBeat) eK
    (fun p env => ∃ G y6 y7, nlk y6 ∧ nlk y7 ∧ WL c (okd dm) H (F ++ G) ∧ Done c (okd dm) (F ++ G) t p.length ∧ env = duE c H dm (F ++ G) k y6 y7) (List.range c.size) [] (duE c H dm F k x6 x7)
    (fun m p q env e => by
      rintro ⟨G, y6, y7, m6, m7, hw, hd, rfl⟩
      obtain ⟨em, hm⟩ := range_at (show List.range c.size = p ++ m :: q from e)
      have hlen := hw.len hH
      have hlet := ev_let0 S h (m : Int) t0 t1
      have hkl : k < F.length := (List.getElem?_eq_some_iff.mp hk).1
      have hix : pIdx (eL (F ++ G)) (.int (k : Int)) = some (.int t) := ix_L (by rw [List.getElem?_append_left hkl]; exact hk)
      by_cases hL : c.L [] t (m : Int) = true
      · rw [if_pos hL] at hlet
        have isnl : pIs (eL (c.E [] t (m : Int))) .non = some (.bl false) := isnL
        have itl : itemsOf (eL (c.E [] t (m : Int))) = some ((c.E [] t (m : Int)).map .int) := rfl
        have pll : plOf (eL (c.E [] t (m : Int))) = .val (eL (c.E [] t (m : Int))) := rfl
        have hdc := elc (it := iP (pA (eIf (eP2 pIs (pN 7) (pA (eC .non))) (eLst (esNil)) (eVar 7)))) (vs := [8]) (g := tgN 8) (c := eP2 pNotInX (pN 8) (pN 4)) (e := eVar 8)
          (env := duE c H dm (F ++ G) k (.v (.int (m : Int))) (.v (eL (c.E [] t (m : Int))))) (env0 := duE c H dm (F ++ G) k (.v (.int (m : Int))) (.v (eL (c.E [] t (m : Int))))) (S := S) (c.E [] t (m : Int)) PV.int (fun x => !decide (x ∈ F ++ G)) PV.int
          (by simp [isnl, pll, itl]) rfl (by have := E_len (late := []) (t := t) (b := (m : Int)) h; omega) (fun x hx => ⟨_, rfl, by simp [show pNotInX (.int x) (eL (F ++ G)) = _ from notin_L x (F ++ G), -List.mem_append], fun _ => by simp⟩)
        have hw2 := hw.tell (b := 0) (by simp) ht hm ho hL
        have hlen2 := hw2.len hH
        have hadd : pAdd (eL (F ++ G)) (.lst (((c.E [] t (m : Int)).filter fun x => !decide (x ∈ F ++ G)).map .int)) = some (eL ((F ++ G) ++ (c.E [] t (m : Int)).filter fun x => !decide (x ∈ F ++ G))) := by
          unfold eL
          rw [List.length_append] at hlen2
          rw [add_ll (by simp only [List.length_map]; omega), List.map_append (l₁ := F ++ G)]
        refine ⟨duE c H dm (F ++ G) k (.v (.int (m : Int))) y7, duE c H dm (F ++ (G ++ (c.E [] t (m : Int)).filter fun x => !decide (x ∈ F ++ G))) k (.v (.int (m : Int))) (.v (eL (c.E [] t (m : Int)))), by simp [duE, eK, setS_nlk m6], ?_, G ++ (c.E [] t (m : Int)).filter fun x => !decide (x ∈ F ++ G), .v (.int (m : Int)), .v (eL (c.E [] t (m : Int))), by simp [nlk], by simp [nlk], by rw [← List.append_assoc]; exact hw2, ?_, rfl⟩
        · rw [← List.append_assoc]
          generalize ((c.E [] t (m : Int)).filter fun x => !decide (x ∈ F ++ G)) = ys at hdc hadd
          simp only [duE] at hdc ⊢
          generalize F ++ G = FG at hdc hadd hix
          simp [duBeat, hix, hlet, setS_nlk m7, ↓hdc, hadd]
        · intro d hd' ho' hL' x hx
          rw [← List.append_assoc]
          by_cases hdm : d = m
          · subst hdm; exact mem_tell hx
          · exact List.mem_append.mpr (.inl (hd d (by rw [List.length_append] at hd'; simp at hd'; omega) ho' hL' x hx))
      · rw [if_neg hL] at hlet
        have hdc := elc (it := iP (pA (eIf (eP2 pIs (pN 7) (pA (eC .non))) (eLst (esNil)) (eVar 7)))) (vs := [8]) (g := tgN 8) (c := eP2 pNotInX (pN 8) (pN 4)) (e := eVar 8)
          (env := duE c H dm (F ++ G) k (.v (.int (m : Int))) (.v .non)) (env0 := duE c H dm (F ++ G) k (.v (.int (m : Int))) (.v .non)) (S := S) [] PV.int (fun x => !decide (x ∈ F ++ G)) PV.int
          (by simp) rfl (by simp) (fun x hx => absurd hx (by simp))
        have hadd : pAdd (eL (F ++ G)) (.lst []) = some (eL (F ++ G)) := by
          unfold eL; rw [add_ll (by simp only [List.length_map, List.length_nil]; omega), List.append_nil]
        refine ⟨duE c H dm (F ++ G) k (.v (.int (m : Int))) y7, duE c H dm (F ++ G) k (.v (.int (m : Int))) (.v .non), by simp [duE, eK, setS_nlk m6], ?_, G, .v (.int (m : Int)), .v .non, by simp [nlk], by simp [nlk], hw, ?_, rfl⟩
        · simp only [List.filter_nil, List.map_nil] at hdc
          simp only [duE] at hdc ⊢
          generalize F ++ G = FG at hdc hadd hix
          simp [duBeat, hix, hlet, setS_nlk m7, ↓hdc, hadd]
        · intro d hd' ho' hL' x hx
          by_cases hdm : d = m
          · subst hdm; exact absurd hL' hL
          · exact hd d (by rw [List.length_append] at hd'; simp at hd'; omega) ho' hL' x hx)
    ⟨[], x6, x7, n6, n7, by simpa using hF, fun d hd => absurd hd (Nat.not_lt_zero d), by simp [duE]⟩
  exact ⟨G, y6, y7, m6, m7, hw, by simpa using hd, h1⟩
def duBody : Sm := (sSeq (sFor (iR1 (eIf (eP2 pNeK (pA (eP2 pIdx (pN 4) (pN 5))) (pN 2)) (eVar 3) (eC (.int 0)))) (tgN 6) duBeat) (sSeq (sPut (tgN 5) (eP2 pAdd (pN 5) (pA (eC (.int 1))))) (sNil)))
theorem du_while (S : Sto) (h : c.G) (hH : Fk c.n H) (dm : Int) : ∃ env S', whileLoop (eP2 pLt (pN 5) (pA (eP1 pLen (pN 4)))) duBody fuel (duE c H dm H 0 .un .un) S = .nx env S' ∧ S' = S ∧ ∃ F k x5 x6, env = duE c H dm F k x5 x6 ∧ F.Nodup ∧ ∀ x, x ∈ F ↔ GR c (okd dm) H x := by
  have hn := G_n h
  have hz := size_ok h
  refine siWhile (fun m env S' => S' = S ∧ ∃ F k x5 x6, nlk x5 ∧ nlk x6 ∧ WL c (okd dm) H F ∧ k ≤ F.length ∧ (∀ (j : Nat) t, j < k → F[j]? = some t → Done c (okd dm) F t c.size) ∧ env = duE c H dm F k x5 x6 ∧ m = c.n - k) ?_ fuel (c.n - 0) _ S (by unfold fuel; omega) ⟨rfl, H, 0, .un, .un, by simp [nlk], by simp [nlk], ⟨hH.nd, fun x hx => .base hx, fun x hx => hx⟩, Nat.zero_le _, fun j t hj => absurd hj (Nat.not_lt_zero j), rfl, rfl⟩
  rintro m env S' ⟨rfl, F, k, x5, x6, n5, n6, hw, hk, hd, rfl, rfl⟩
  have hlen := hw.len hH
  have hll : pLen (eL F) = some (.int F.length) := by show some (PV.int ((F.map PV.int).length : Nat)) = _; rw [List.length_map]
  refine ⟨decide (k < F.length), by simp [duE, hll], ?_⟩
  by_cases hlt : k < F.length
  · rw [if_pos (by simpa using hlt)]
    have hx : F[k]? = some F[k] := List.getElem?_eq_getElem hlt
    have hix : pIdx (eL F) (.int (k : Int)) = some (.int F[k]) := ix_L hx
    by_cases ho : okd dm F[k] = true
    · obtain ⟨G, y6, y7, m6, m7, hw2, hd2, hl⟩ := du_beats S' h hH k dm hw hx ho x5 x6 n5 n6
      refine ⟨_, _, ?_, c.n - (k + 1), by omega, rfl, F ++ G, k + 1, y6, y7, m6, m7, hw2, by rw [List.length_append]; omega, fun j t hj hjt => ?_, rfl, rfl⟩
      · have hne : ¬ F[k] = dm := by unfold okd at ho; simpa using ho
        have hr := r1_ok (d := eIf (eP2 pNeK (pA (eP2 pIdx (pN 4) (pN 5))) (pN 2)) (eVar 3) (eC (.int 0))) (env := duE c H dm F k x5 x6) (S := S') (j := (c.size : Int)) (by simp [hix, hne]) (by omega) (by omega)
        rw [show ((c.size : Int)).toNat = c.size by omega] at hr
        simp only [duE] at hl hr ⊢
        generalize F ++ G = FG at hl
        simp [duBody, ↓hr, hl]
      · by_cases hjk : j < k
        · rw [List.getElem?_append_left (by omega)] at hjt
          exact (hd j t hjk hjt).up
        · have : j = k := by omega
          subst this
          rw [List.getElem?_append_left (by omega), hx] at hjt
          cases hjt
          exact hd2
    · refine ⟨_, _, ?_, c.n - (k + 1), by omega, rfl, F, k + 1, x5, x6, n5, n6, hw, by omega, fun j t hj hjt => ?_, rfl, rfl⟩
      · have hne : F[k] = dm := by unfold okd at ho; simpa using ho
        have hr := r1_ok (d := eIf (eP2 pNeK (pA (eP2 pIdx (pN 4) (pN 5))) (pN 2)) (eVar 3) (eC (.int 0))) (env := duE c H dm F k x5 x6) (S := S') (j := 0) (by simp [hix, hne]) (by omega) (by omega)
        simp only [Int.toNat_zero, List.range_zero, List.map_nil] at hr
        simp only [duE] at hr ⊢
        simp [duBody, ↓hr, forLoop]
      · by_cases hjk : j < k
        · exact hd j t hjk hjt
        · have : j = k := by omega
          subst this
          rw [hx] at hjt
          cases hjt
          intro b hb ho2
          exact absurd ho2 ho
  · rw [if_neg (by simpa using hlt)]
    refine ⟨rfl, F, k, x5, x6, rfl, hw.nd, fun x => hw.all fun j t hjt => hd j t ?_ hjt⟩
    have := (List.getElem?_eq_some_iff.mp hjt).1
    omega
theorem ev_dumb (S : Sto) (h : c.G) (hH : Fk c.n H) (dm : Int) : ∃ F, f_law_dumb [eW c, eI H, .int dm, .int (c.size : Int)] S = .ok (eL F) S ∧ ∀ x, x ∈ F ↔ GR c (okd dm) H x := by
  obtain ⟨env, S', hw, rfl, F, k, x5, x6, rfl, nd, hF⟩ := du_while S h hH dm
  refine ⟨F, ?_, hF⟩
  have hli : pListK (eI H) = some (eL H) := rfl
  rw [f_law_dumb, run_s]
  change fin _ (d_law_dumb [.v (eW c), .v (eI H), .v (.int dm), .v (.int (c.size : Int)), .un, .un, .un, .un, .un] S') = _
  simp only [duE, duBody, duBeat] at hw
  rw [show ((0 : Nat) : Int) = 0 from rfl] at hw
  simp [d_law_dumb, hli, sWhile_s, hw]
end N0

set_option maxRecDepth 100000
set_option maxHeartbeats 1000000
/-! ### best_begin, keepers -/
namespace N0
open PySem Hw Pg M01 Sv
variable {c : Cw} {late : List St3} {H : List Int} {b : Int}
noncomputable def bs1 (c : Cw) (H : List Int) (g : Int) (o : Option (Int × Int)) (k : Nat) : Option (Int × Int) := match ear c [] H (k : Int) g with
  | none => o
  | some v => match o with
    | none => some ((k : Int), v - k)
    | some p => if v - k < p.2 then some ((k : Int), v - k) else some p
noncomputable def best (c : Cw) (H : List Int) (g : Int) : Option (Int × Int) := (List.range c.size).foldl (bs1 c H g) none
def eB : Option (Int × Int) → PV
  | none => .non
  | some p => ePr p
@[simp] theorem plOf_eB {o : Option (Int × Int)} : plOf (eB o) = .val (eB o) := by cases o <;> rfl
theorem bs_none {g : Int} : ∀ (l : List Nat) (o : Option (Int × Int)), l.foldl (bs1 c H g) o = none ↔ o = none ∧ ∀ k ∈ l, ear c [] H (k : Int) g = none
  | [], o => by simp
  | k :: l, o => by
    rw [List.foldl_cons, bs_none l]
    have : bs1 c H g o k = none ↔ o = none ∧ ear c [] H (k : Int) g = none := by
      unfold bs1
      cases ear c [] H (k : Int) g with
      | none => simp
      | some v =>
        cases o with
        | none => simp
        | some p => simp only; split <;> simp
    rw [this]
    simp [and_assoc]
theorem best_none (h : c.G) (hH : Fk c.n H) {g : Int} : best c H g = none ↔ g ∉ rch c H := by
  unfold best
  rw [bs_none]
  have hz := size_ok h
  rw [mem_rch hH]
  constructor
  · rintro ⟨_, h0⟩ gr
    obtain ⟨i, m⟩ := (gr_mem h hH 0 g).mpr gr
    exact ear_none_iff.mp (h0 0 (List.mem_range.mpr (by omega))) i m
  · intro ng
    exact ⟨rfl, fun k _ => ear_none fun i m => ng ((gr_mem h hH (k : Int) g).mp ⟨i, m⟩)⟩
theorem best_own {g : Int} (h : c.G) (hg : g ∈ H) : best c H g = some (0, 0) := by
  have hz := size_ok h
  have h0 : ∀ k : Nat, ear c [] H (k : Int) g = some (k : Int) := fun k => by
    have := ear_some (c := c) (late := []) (H := H) (b := (k : Int)) (i := 0) (x := g) hg (fun k hk => absurd hk (Nat.not_lt_zero k))
    simpa using this
  have keep : ∀ l : List Nat, l.foldl (bs1 c H g) (some (0, 0)) = some (0, 0) := fun l => by
    induction l with
    | nil => rfl
    | cons k l ih =>
      rw [List.foldl_cons]
      have : bs1 c H g (some (0, 0)) k = some (0, 0) := by unfold bs1; rw [h0 k]; simp
      rw [this, ih]
  unfold best
  obtain ⟨m, hm⟩ : ∃ m, c.size = m + 1 := ⟨c.size - 1, by omega⟩
  rw [hm, List.range_succ_eq_map, List.foldl_cons]
  have : bs1 c H g none 0 = some (0, 0) := by unfold bs1; rw [h0 0]; simp
  rw [this]
  exact keep _
theorem ev_spread0 (S : Sto) (h : c.G) (hH : Fk c.n H) : ∃ s, f_spread [eW c, eI H, .int b, .tup []] S = .ok (.dI (eD s)) S ∧ ∀ x, s.get x = ear c [] H b x := by
  have e : eLate [] = .tup [] := rfl
  rw [← e]
  obtain ⟨s, h1, _, h2⟩ := ev_spread (late := []) (b := b) S h hH ⟨by simp, by simp, List.Pairwise.nil⟩ settled_nil
  exact ⟨s, h1, h2⟩
@[simp] theorem isn_eB {o : Option (Int × Int)} : pIs (eB o) .non = some (.bl o.isNone) := by cases o <;> rfl
@[simp] theorem isn_ePr {p : Int × Int} : pIs (ePr p) .non = some (.bl false) := rfl
theorem ev_best_begin (S : Sto) (h : c.G) (hH : Fk c.n H) {g : Int} (g0 : 0 ≤ g) (g1 : g < c.n) : f_best_begin [eW c, eI H, .int g] S = if best c H g = none then .ex .none S else .ok (eB (best c H g)) S := by
  have hn := G_n h
  have hz := size_ok h
  have hl : f_look_one [eW c, .int g] S = .ok .non S := M01.ev_look_one S g0 g1
  have hf := ev_look_folk S hH.1 hH.2 (by have := hH.len; omega)
  have hr : f_round_of [.lst [eW c]] S = .ok (.int (c.size : Int)) S := M01.ev_round_of S h
  have hr1 := r1_ok (d := eCall f_round_of (esCons (eLst (esCons (eVar 0) (esNil))) (esNil))) (env := [.v (eW c), .v (eI H), .v (.int g), .v .non, .un, .un]) (S := S) (j := (c.size : Int)) (by simp [hr]) (by omega) (by omega)
  rw [show ((c.size : Int)).toNat = c.size by omega] at hr1
  obtain ⟨env', h1, x4, x5, n4, n5, rfl⟩ := for_st (g := tgN 4) (S := S) (body := (sSeq (sPut (tgN 5) (eGet1 (pA (eCall f_spread (esCons (eVar 0) (esCons (eVar 1) (esCons (eVar 4) (esCons (eTup (esNil)) (esNil))))))) (eVar 2))) (sSeq (sIf (eAnd (eP2 pIsNot (pN 5) (pA (eC .non))) (eOr (eP2 pIs (pN 3) (pA (eC .non))) (eP2 pLt (pA (eP2 pSub (pN 5) (pN 4))) (pA (eP2 pIdx (pN 3) (pA (eC (.int 1)))))))) (sSeq (sPut (tgN 3) (eTup (esCons (eVar 4) (esCons (eP2 pSub (pN 5) (pN 4)) (esNil))))) (sNil)) (sNil)) (sNil)))) eK
    (fun o env => ∃ x4 x5, nlk x4 ∧ nlk x5 ∧ env = [.v (eW c), .v (eI H), .v (.int g), .v (eB o), x4, x5]) (bs1 c H g) (List.range c.size) none [.v (eW c), .v (eI H), .v (.int g), .v .non, .un, .un]
    (fun k hk o env => by
      rintro ⟨x4, x5, n4, n5, rfl⟩
      obtain ⟨s, e1, hg⟩ := ev_spread0 (b := (k : Int)) S h hH
      refine ⟨[.v (eW c), .v (eI H), .v (.int g), .v (eB o), .v (.int (k : Int)), x5], [.v (eW c), .v (eI H), .v (.int g), .v (eB (bs1 c H g o k)), .v (.int (k : Int)), .v (eO (ear c [] H (k : Int) g))], by simp [eK, setS_nlk n4], ?_, _, _, by simp [nlk], by simp [nlk], rfl⟩
      unfold bs1
      cases hv : ear c [] H (k : Int) g with
      | none => simp [e1, getD_eO, hg, hv, setS_nlk n5, isnt_eO]
      | some v =>
        have eo : eO (some v) = .int v := rfl
        cases o with
        | none => simp [e1, getD_eO, hg, hv, setS_nlk n5, isnt_eO, eo]; rfl
        | some p =>
          have eb : eB (some p) = ePr p := rfl
          by_cases q : v - (k : Int) < p.2
          · simp [e1, getD_eO, hg, hv, setS_nlk n5, isnt_eO, eo, eb, q]; rfl
          · simp [e1, getD_eO, hg, hv, setS_nlk n5, isnt_eO, eo, eb, q])
    ⟨.un, .un, by simp [nlk], by simp [nlk], rfl⟩
  rw [f_best_begin, run_s]
  change fin _ (d_best_begin [.v (eW c), .v (eI H), .v (.int g), .un, .un, .un] S) = _
  rw [show (List.range c.size).foldl (bs1 c H g) none = best c H g from rfl] at h1
  cases hb : best c H g with
  | none =>
    rw [hb] at h1
    simp [d_best_begin, ev_look_crowd S h, hf, hl, ↓hr1, h1]
  | some p =>
    rw [hb] at h1
    simp [d_best_begin, ev_look_crowd S h, hf, hl, ↓hr1, h1]
open Classical in
/-- those without whose telling it never could -/
noncomputable def kpB (c : Cw) (H : List Int) (g : Int) (k : Nat) : Bool := !decide ((k : Int) ∈ H) && (!decide ((k : Int) = g) && !decide (GR c (okd (k : Int)) H g))
noncomputable def kps (c : Cw) (H : List Int) (g : Int) : List Int := ((List.range c.n).filter (kpB c H g)).map fun k : Nat => (k : Int)
theorem notin_F {F : List Int} {g : Int} {P : Prop} (hF : g ∈ F ↔ P) [Decidable P] : pNotInX (.int g) (eL F) = some (.bl (!decide P)) := by
  rw [show eL F = .lst (F.map .int) from rfl, notin_L]
  congr 2
  simp [hF]
open Classical in
theorem ev_keepers (S : Sto) (h : c.G) (hH : Fk c.n H) {g : Int} (g0 : 0 ≤ g) (g1 : g < c.n) : f_keepers [eW c, eI H, .int g] S = if g ∈ rch c H then .ok (eL (kps c H g)) S else .ex .none S := by
  have hn := G_n h
  have hz := size_ok h
  have hl : f_look_one [eW c, .int g] S = .ok .non S := M01.ev_look_one S g0 g1
  have hf := ev_look_folk S hH.1 hH.2 (by have := hH.len; omega)
  have hcl := ev_closed S h hH
  have hni : pNotInX (.int g) (eI (rch c H)) = some (.bl (!decide (g ∈ rch c H))) := notin_T g _
  have hr1 := r1_ok (d := eP1 pLen (pA (eP2 pIdx (pN 0) (pA (eC (.int 1)))))) (env := [.v (eW c), .v (eI H), .v (.int g), .own (.lst []), .un]) (S := S) (j := (c.n : Int)) (by simp [Cw.n]) (by omega) (by omega)
  rw [show ((c.n : Int)).toNat = c.n by omega] at hr1
  obtain ⟨env', h1, x4, n4, rfl⟩ := for_pre (g := tgN 4) (S := S) (body := (sSeq (sIf (eAnd (eP2 pNotInX (pN 4) (pN 1)) (eAnd (eP2 pNeK (pN 4) (pN 2)) (eP2 pNotInX (pN 2) (pA (eCall f_silent (esCons (eVar 0) (esCons (eVar 1) (esCons (eVar 4) (esNil))))))))) (sSeq (sApp 3 (eVar 4)) (sNil)) (sNil)) (sNil))) eK
    (fun p env => ∃ x4, nlk x4 ∧ env = [.v (eW c), .v (eI H), .v (.int g), .own (.lst ((p.filter (kpB c H g)).map fun k : Nat => .int (k : Int))), x4]) (List.range c.n) [] [.v (eW c), .v (eI H), .v (.int g), .own (.lst []), .un]
    (fun k p q env e => by
      rintro ⟨x4, n4, rfl⟩
      obtain ⟨ek, hk⟩ := range_at (show List.range c.n = p ++ k :: q from e)
      obtain ⟨F, e1, hF⟩ := ev_silent S h hH (k : Int)
      have hnf := notin_F (hF g)
      have pll : plOf (eL F) = .val (eL F) := rfl
      have hkh : pNotInX (.int (k : Int)) (eI H) = some (.bl (!decide ((k : Int) ∈ H))) := notin_T _ _
      have hpl : ((p.filter (kpB c H g)).map fun k : Nat => PV.int (k : Int)).length ≤ 1000000 := by
        rw [List.length_map]; have := List.length_filter_le (kpB c H g) p; omega
      refine ⟨[.v (eW c), .v (eI H), .v (.int g), .own (.lst ((p.filter (kpB c H g)).map fun k : Nat => .int (k : Int))), .v (.int (k : Int))], [.v (eW c), .v (eI H), .v (.int g), .own (.lst (((p ++ [k]).filter (kpB c H g)).map fun k : Nat => .int (k : Int))), .v (.int (k : Int))], by simp [eK, setS_nlk n4], ?_, _, by simp [nlk], rfl⟩
      rw [List.filter_append, List.map_append]
      generalize (p.filter (kpB c H g)).map (fun k : Nat => PV.int (k : Int)) = ys at hpl
      by_cases a1 : (k : Int) ∈ H
      · have : kpB c H g k = false := by unfold kpB; simp [a1]
        simp [hkh, a1, this]
      · by_cases a2 : (k : Int) = g
        · have : kpB c H g k = false := by unfold kpB; simp [a2]
          subst a2
          simp [hkh, a1, this]
        · by_cases a3 : GR c (okd (k : Int)) H g
          · have : kpB c H g k = false := by unfold kpB; simp [a3]
            simp [hkh, a1, a2, e1, pll, hnf, a3, this]
          · have : kpB c H g k = true := by unfold kpB; simp [a1, a2, a3]
            simp [hkh, a1, a2, e1, pll, hnf, a3, this, hpl])
    ⟨.un, by simp [nlk], rfl⟩
  have hks : (((List.range c.n).filter (kpB c H g)).map fun k : Nat => PV.int (k : Int)) = (kps c H g).map .int := by unfold kps; rw [List.map_map]; rfl
  simp only [List.nil_append, hks] at h1
  rw [f_keepers, run_s]
  change fin _ (d_keepers [.v (eW c), .v (eI H), .v (.int g), .un, .un] S) = _
  by_cases hg : g ∈ rch c H
  · rw [if_pos hg]
    simp [d_keepers, ev_look_crowd S h, hf, hl, hcl, hni, hg, ↓hr1, h1]
    rfl
  · rw [if_neg hg]
    simp [d_keepers, ev_look_crowd S h, hf, hl, hcl, hni, hg]
end N0

set_option maxRecDepth 100000
set_option maxHeartbeats 4000000
namespace G05
open PySem PySem.Spec L2 Hw Pg
/-! ### the text by places -/
def top (i : Nat) : Stmt := PySem.Challenge.pw_hushways_k05_whole_begins.main.body.getD i (.Pass ⟨0, 0, 0, 0⟩)
abbrev t_is_whole : Stmt := top 10
abbrev t_is_stand : Stmt := top 16
abbrev t_is_folk : Stmt := top 17
abbrev t_is_crowd : Stmt := top 18
abbrev t_look_crowd : Stmt := top 19
abbrev t_look_one : Stmt := top 20
abbrev t_look_folk : Stmt := top 21
abbrev t_stood : Stmt := top 22
abbrev t_heard : Stmt := top 23
abbrev t_ears : Stmt := top 24
abbrev t_may_tell : Stmt := top 25
abbrev t_common : Stmt := top 26
abbrev t_round_of : Stmt := top 27
abbrev t_spread : Stmt := top 29
abbrev t_closed : Stmt := top 30
abbrev t_best_begin : Stmt := top 31
abbrev t_keepers : Stmt := top 32
abbrev t_silent : Stmt := top 33
abbrev t_law_town : Stmt := top 35
abbrev t_law_draw : Stmt := top 36
abbrev t_law_pick : Stmt := top 37
abbrev t_law_refusal : Stmt := top 38
abbrev t_law_meetings : Stmt := top 39
abbrev t_law_crowd : Stmt := top 40
abbrev t_law_stand : Stmt := top 41
abbrev t_law_hears : Stmt := top 42
abbrev t_law_ears : Stmt := top 43
abbrev t_law_let : Stmt := top 44
abbrev t_law_size : Stmt := top 45
abbrev t_law_some : Stmt := top 46
abbrev t_law_firsts : Stmt := top 47
abbrev t_law_owners : Stmt := top 48
abbrev t_law_home : Stmt := top 49
abbrev t_law_told : Stmt := top 50
abbrev t_law_dumb : Stmt := top 51
abbrev t_law : Stmt := top 52
/-! ### what the top has written -/
structure Txt (K : PySem.W.Frag) (mg : Str → Option Value) (C : Kx → Addr) : Prop where
  b_ValueError : mg ("ValueError" : Str) = none
  b_abs : mg ("abs" : Str) = none
  b_all : mg ("all" : Str) = none
  b_any : mg ("any" : Str) = none
  b_bool : mg ("bool" : Str) = none
  b_int : mg ("int" : Str) = none
  b_isinstance : mg ("isinstance" : Str) = none
  b_len : mg ("len" : Str) = none
  b_list : mg ("list" : Str) = none
  b_max : mg ("max" : Str) = none
  b_min : mg ("min" : Str) = none
  b_range : mg ("range" : Str) = none
  b_sorted : mg ("sorted" : Str) = none
  b_tuple : mg ("tuple" : Str) = none
  c_MOST_FOLK : ∃ (u : Value) (v : V), mg ("MOST_FOLK" : Str) = some u ∧ RelV v u ∧ ∀ (C : Kx → Addr) (F : Hp) (ρ : List Addr), Rep K C F ρ v (.int 8)
  c_MOST_PLACE : ∃ (u : Value) (v : V), mg ("MOST_PLACE" : Str) = some u ∧ RelV v u ∧ ∀ (C : Kx → Addr) (F : Hp) (ρ : List Addr), Rep K C F ρ v (.int 9)
  c_MOST_STANDS : ∃ (u : Value) (v : V), mg ("MOST_STANDS" : Str) = some u ∧ RelV v u ∧ ∀ (C : Kx → Addr) (F : Hp) (ρ : List Addr), Rep K C F ρ v (.int 6)
  c_WAYS : ∃ (u : Value) (v : V), mg ("WAYS" : Str) = some u ∧ RelV v u ∧ ∀ (C : Kx → Addr) (F : Hp) (ρ : List Addr), Rep K C F ρ v (.tup [(.tup [(.int 1), (.int 0)]), (.tup [(.int 0), (.int 1)]), (.tup [(.int (-1)), (.int 0)]), (.tup [(.int 0), (.int (-1))])])
  x_BadCrowd : ExcT K mg C ("BadCrowd" : Str) .crowd
  x_BadFolk : ExcT K mg C ("BadFolk" : Str) .folk
  x_NoneSuch : ExcT K mg C ("NoneSuch" : Str) .none
  ec : ∀ k, ExcC K (C k)
  i_BadBeat : mg ("BadBeat" : Str) = some (.ref (He.ga K ("BadBeat" : Str))) ∧ ∀ k, PySem.W.kitOne K (.ref (C k)) (.ref (He.ga K ("BadBeat" : Str))) = some ((kOne .beat) k)
  i_BadCrowd : mg ("BadCrowd" : Str) = some (.ref (He.ga K ("BadCrowd" : Str))) ∧ ∀ k, PySem.W.kitOne K (.ref (C k)) (.ref (He.ga K ("BadCrowd" : Str))) = some ((kOne .crowd) k)
  i_BadFolk : mg ("BadFolk" : Str) = some (.ref (He.ga K ("BadFolk" : Str))) ∧ ∀ k, PySem.W.kitOne K (.ref (C k)) (.ref (He.ga K ("BadFolk" : Str))) = some ((kOne .folk) k)
  i_BadNotes : mg ("BadNotes" : Str) = some (.ref (He.ga K ("BadNotes" : Str))) ∧ ∀ k, PySem.W.kitOne K (.ref (C k)) (.ref (He.ga K ("BadNotes" : Str))) = some ((kOne .notes) k)
  i_BadPaper : mg ("BadPaper" : Str) = some (.ref (He.ga K ("BadPaper" : Str))) ∧ ∀ k, PySem.W.kitOne K (.ref (C k)) (.ref (He.ga K ("BadPaper" : Str))) = some ((kOne .paper) k)
  i_BadRow : mg ("BadRow" : Str) = some (.ref (He.ga K ("BadRow" : Str))) ∧ ∀ k, PySem.W.kitOne K (.ref (C k)) (.ref (He.ga K ("BadRow" : Str))) = some ((kOne .row) k)
  i_BadText : mg ("BadText" : Str) = some (.ref (He.ga K ("BadText" : Str))) ∧ ∀ k, PySem.W.kitOne K (.ref (C k)) (.ref (He.ga K ("BadText" : Str))) = some ((kOne .text) k)
  i_HushError : mg ("HushError" : Str) = some (.ref (He.ga K ("HushError" : Str))) ∧ ∀ k, PySem.W.kitOne K (.ref (C k)) (.ref (He.ga K ("HushError" : Str))) = some (kAny k)
  i_NoneSuch : mg ("NoneSuch" : Str) = some (.ref (He.ga K ("NoneSuch" : Str))) ∧ ∀ k, PySem.W.kitOne K (.ref (C k)) (.ref (He.ga K ("NoneSuch" : Str))) = some ((kOne .none) k)
  i_ValueError : ∀ k, PySem.W.kitOne K (.ref (C k)) (.type "ValueError") = some (kAny k)
  h_HushError : mg ("HushError" : Str) = some (.ref (He.ga K ("HushError" : Str))) ∧ ∀ k, PySem.W.exmOne K (.ref (C k)) (.ref (He.ga K ("HushError" : Str))) = some true
abbrev FnP (K : PySem.W.Frag) (x : Str) (st : Stmt) (dvs : List V) (kws : List (Str × V)) (f : Addr) (fd : FuncData) : Prop := FunD K x x (defArgs st) (defBody st) (defScope st) dvs kws f fd
/-! ### what each def does -/
def d_law_told : Sm := sSeq (sPut (tgN 4) (eC .non)) (sSeq (sPut (tgN 5) (eC .non)) (sSeq (sTry 6 5 (sSeq (sPut (tgN 4) (eIf (eP2 pEq (pN 0) (pA (eC (.int 0)))) (eCall f_best_begin (esCons (eVar 1) (esCons (eVar 2) (esCons (eVar 3) (esNil))))) (eCall f_keepers (esCons (eVar 1) (esCons (eVar 2) (esCons (eVar 3) (esNil))))))) (sNil))) (sSeq (sRet (eIf (eP2 pIs (pN 5) (pA (eC .non))) (eVar 4) (eCall f_law_refusal (esCons (eVar 5) (esNil))))) (sNil))))
def f_law_told : Fn := runFn 7 d_law_told
def d_law : Sm := sSeq (sPut (tgN 1) (eCall f_law_town (esCons (eVar 0) (esNil)))) (sSeq (sPut (tgN 2) (eP2 pAdd (pA (eC (.int 3))) (pA (eCall f_law_draw (esCons (eVar 1) (esCons (eC (.int 4)) (esNil))))))) (sSeq (sPut (tgN 3) (eCall f_law_crowd (esCons (eVar 1) (esCons (eVar 2) (esCons (eC (.int 3)) (esNil)))))) (sSeq (sPut (tgN 4) (eCall f_law_owners (esCons (eVar 1) (esCons (eVar 2) (esNil))))) (sSeq (sPut (tgN 5) (eCall f_law_size (esCons (eLst (esCons (eVar 3) (esNil))) (esNil)))) (sSeq (sPut (tgN 6) (eCall f_law_home (esCons (eVar 1) (esCons (eVar 2) (esCons (eVar 4) (esNil)))))) (sSeq (sPut (tgN 7) (eC .non)) (sSeq (sFor (iR1 (eVar 5)) (tgN 8) (sSeq (sPut (tgN 12) (eGet1 (pA (eCall f_law_firsts (esCons (eVar 3) (esCons (eVar 4) (esCons (eVar 8) (esCons (eTup (esNil)) (esCons (eP2 pMul (pN 5) (pA (eP2 pAdd (pN 2) (pA (eC (.int 1)))))) (esNil)))))))) (eVar 6))) (sSeq (sIf (eAnd (eP2 pIsNot (pN 12) (pA (eC .non))) (eOr (eP2 pIs (pN 7) (pA (eC .non))) (eP2 pLt (pA (eP2 pSub (pN 12) (pN 8))) (pA (eP2 pIdx (pN 7) (pA (eC (.int 1)))))))) (sSeq (sPut (tgN 7) (eTup (esCons (eVar 8) (esCons (eP2 pSub (pN 12) (pN 8)) (esNil))))) (sNil)) (sNil)) (sNil)))) (sSeq (sIf (eP2 pNeK (pA (eCall f_law_told (esCons (eC (.int 0)) (esCons (eVar 3) (esCons (eVar 4) (esCons (eVar 6) (esNil))))))) (pA (eIf (eP2 pIs (pN 7) (pA (eC .non))) (eC (.str ("none" : Str))) (eVar 7)))) (sSeq (sRet (eC (.bl false))) (sNil)) (sNil)) (sSeq (sOwn 9 (eLst (esNil))) (sSeq (sFor (iR1 (eVar 2)) (tgN 10) (sSeq (sIf (eAnd (eP2 pNotInX (pN 10) (pN 4)) (eAnd (eP2 pNeK (pN 10) (pN 6)) (eP2 pNotInX (pN 6) (pA (eCall f_law_dumb (esCons (eVar 3) (esCons (eVar 4) (esCons (eVar 10) (esCons (eVar 5) (esNil)))))))))) (sSeq (sApp 9 (eVar 10)) (sNil)) (sNil)) (sNil))) (sSeq (sPut (tgN 11) (eCall f_law_told (esCons (eC (.int 1)) (esCons (eVar 3) (esCons (eVar 4) (esCons (eVar 6) (esNil))))))) (sSeq (sFz 9) (sSeq (sIf (eP2 pNeK (pN 11) (pA (eIf (eP2 pIs (pN 7) (pA (eC .non))) (eC (.str ("none" : Str))) (eVar 9)))) (sSeq (sRet (eC (.bl false))) (sNil)) (sNil)) (sSeq (sRet (eOr (eP2 pIs (pN 7) (pA (eC .non))) (eOr (eP2 pNotInX (pN 6) (pN 4)) (eAnd (eP2 pEq (pN 7) (pA (eTup (esCons (eC (.int 0)) (esCons (eC (.int 0)) (esNil)))))) (eP2 pEq (pN 9) (pA (eLst (esNil)))))))) (sNil)))))))))))))))
def f_law : Fn := runFn 13 d_law
/-! ### each def does it -/
section
variable {P : Program} {W : World} {K : PySem.W.Frag} {mg : Str → Option Value} {base : Heap} {C : Kx → Addr}
theorem sc_is_whole : FnScope [("thing" : Str), ("low" : Str), ("high" : Str)] [("thing" : Str), ("low" : Str), ("high" : Str)] (defScope t_is_whole) := ⟨rfl, rfl, rfl, by decide +kernel, rfl, by decide +kernel, by decide +kernel⟩
theorem k_is_whole {f : Addr} {fd : FuncData} {dvs : List V} {kws : List (Str × V)} (T : Txt K mg C)  (F : FnP K ("is_whole" : Str) t_is_whole dvs kws f fd) : FnOk P W K mg base (L2.CX P W) 1 f fd [("thing" : Str), ("low" : Str), ("high" : Str)] (spF K C f_is_whole 3) :=
  fn_okD (k := 0) F sc_is_whole fun cdv A outer s H EX hr =>
    (hs_cons (h_ret (h_and (h_isi .int (by rfl) T.b_isinstance (by rfl) T.b_int bb_int (p_n 0)) (h_and (h_not (h_isi .bool (by rfl) T.b_isinstance (by rfl) T.b_bool bb_bool (p_n 0))) (h_one (h_chain op_le op_le s_le s_le (h_var 1) (h_var 0) (h_var 2))))))
    hs_nil)
theorem sc_is_stand : FnScope [("thing" : Str), ("one" : Str)] [("thing" : Str)] (defScope t_is_stand) := ⟨rfl, rfl, rfl, by decide +kernel, rfl, by decide +kernel, by decide +kernel⟩
theorem k_is_stand {f : Addr} {fd : FuncData} {dvs : List V} {kws : List (Str × V)} (T : Txt K mg C) (c_is_whole : Cal P W K mg base C ("is_whole" : Str) 1 3 f_is_whole) (F : FnP K ("is_stand" : Str) t_is_stand dvs kws f fd) : FnOk P W K mg base (L2.CX P W) 2 f fd [("thing" : Str)] (spF K C f_is_stand 1) :=
  fn_okD (k := 1) F sc_is_stand fun cdv A outer s H EX hr =>
    (hs_cons (h_ifS ((hw_or (ht_not (ht_val (h_isi .tuple (by rfl) T.b_isinstance (by rfl) T.b_tuple bb_tuple (p_n 0)))) (hw_or (hpt_cmp (op_neD (hu64 hr)) s_neK (nomark _) (p_a (hp_b1 call_len_seq s_len (by rfl) T.b_len bb_len (p_n 0))) (p_a h_int)) (hw_or1 (ht_not (ht_val (hc_call (k := 1) c_is_whole (hr.mono (by decide)) (by exact takes_of rfl rfl rfl rfl) (by rfl) (ha_cons (hp_ix o_ix s_ix (by intro _ _; rfl) (p_n 0) (p_a h_int)) (ha_cons h_int (ha_cons h_int ha_nil))) (el_cons (el_cons (el_cons el_nil)))))))))).pt (hs_cons (h_ret h_bl)
    hs_nil) hs_nil)
    (hs_cons (h_ret (hp_b1 (cr_all (by rfl)) s_all (by rfl) T.b_all bb_all (p_a (h_lc (E' := E0) (own := [(("one" : Str), 1)]) (by rfl) sc_is_stand.nd (i_p (p_a (h_cut (p_n 0) ho_none (ho_some h_int)))) (blk_ok (by kernel_rfl)) (fun _ _ _ _ _ => (g_name (i := 1) sc_is_stand.nd (by rfl) (by first | exact Or.inl rfl | exact Or.inr rfl))) (fun _ _ _ _ _ => ht_none) (fun _ _ _ _ _ => (hc_call (k := 1) c_is_whole (hr.mono (by decide)) takes0 (by rfl) (ha_cons (h_var 1) (ha_cons (h_op1 un_neg s_neg (h_con (by rfl) T.c_MOST_PLACE)) (ha_cons (h_con (by rfl) T.c_MOST_PLACE) ha_nil))) (el_cons (el_cons (el_cons el_nil))))) (tg_n 1)))))
    hs_nil))
theorem sc_is_folk : FnScope [("thing" : Str), ("many" : Str), ("k" : Str), ("one" : Str)] [("thing" : Str), ("many" : Str)] (defScope t_is_folk) := ⟨rfl, rfl, rfl, by decide +kernel, rfl, by decide +kernel, by decide +kernel⟩
theorem k_is_folk {f : Addr} {fd : FuncData} {dvs : List V} {kws : List (Str × V)} (T : Txt K mg C) (c_is_whole : Cal P W K mg base C ("is_whole" : Str) 1 3 f_is_whole) (F : FnP K ("is_folk" : Str) t_is_folk dvs kws f fd) : FnOk P W K mg base (L2.CX P W) 2 f fd [("thing" : Str), ("many" : Str)] (spF K C f_is_folk 2) :=
  fn_okD (k := 1) F sc_is_folk fun cdv A outer s H EX hr =>
    (hs_cons (h_ifS ((hw_or (ht_not (ht_val (h_isi .tuple (by rfl) T.b_isinstance (by rfl) T.b_tuple bb_tuple (p_n 0)))) (hw_or1 (ht_not (ht_val (hp_b1 (cr_all (by rfl)) s_all (by rfl) T.b_all bb_all (p_a (h_lc (E' := E0) (own := [(("one" : Str), 3)]) (by rfl) sc_is_folk.nd (i_p (p_n 0)) (blk_ok (by kernel_rfl)) (fun _ _ _ _ _ => (g_name (i := 3) sc_is_folk.nd (by rfl) (by first | exact Or.inl rfl | exact Or.inr rfl))) (fun _ _ _ _ _ => ht_none) (fun _ _ _ _ _ => (hc_call (k := 1) c_is_whole (hr.mono (by decide)) takes0 (by rfl) (ha_cons (h_var 3) (ha_cons h_int (ha_cons (hp_op2 op_sub s_sub (p_n 1) (p_a h_int)) ha_nil))) (el_cons (el_cons (el_cons el_nil))))) (tg_n 3))))))))).pt (hs_cons (h_ret h_bl)
    hs_nil) hs_nil)
    (hs_cons (h_ret (hp_b1 (cr_all (by rfl)) s_all (by rfl) T.b_all bb_all (p_a (h_lc (E' := E0) (own := [(("k" : Str), 2)]) (by rfl) sc_is_folk.nd (i_r1 (by rfl) T.b_range (hp_op2 op_sub s_sub (p_a (hp_b1 call_len_seq s_len (by rfl) T.b_len bb_len (p_n 0))) (p_a h_int))) (blk_ok (by kernel_rfl)) (fun _ _ _ _ _ => (g_name (i := 2) sc_is_folk.nd (by rfl) (by first | exact Or.inl rfl | exact Or.inr rfl))) (fun _ _ _ _ _ => ht_none) (fun _ _ _ _ _ => (hp_cmp op_lt s_lt (nomark _) (p_a (hp_ix o_ix s_ix (by intro _ _; rfl) (p_n 0) (p_n 2))) (p_a (hp_ix o_ix s_ix (by intro _ _; rfl) (p_n 0) (p_a (hp_op2 o_add s_add (p_n 2) (p_a h_int))))))) (tg_n 2)))))
    hs_nil))
theorem sc_is_crowd : FnScope [("thing" : Str), ("row" : Str), ("reach" : Str), ("rows" : Str), ("barred" : Str), ("one" : Str)] [("thing" : Str)] (defScope t_is_crowd) := ⟨rfl, rfl, rfl, by decide +kernel, rfl, by decide +kernel, by decide +kernel⟩
theorem k_is_crowd {f : Addr} {fd : FuncData} {dvs : List V} {kws : List (Str × V)} (T : Txt K mg C) (c_is_whole : Cal P W K mg base C ("is_whole" : Str) 1 3 f_is_whole) (c_is_stand : Cal P W K mg base C ("is_stand" : Str) 2 1 f_is_stand) (c_is_folk : Cal P W K mg base C ("is_folk" : Str) 2 2 f_is_folk) (F : FnP K ("is_crowd" : Str) t_is_crowd dvs kws f fd) : FnOk P W K mg base (L2.CX P W) 3 f fd [("thing" : Str)] (spF K C f_is_crowd 1) :=
  fn_okD (k := 2) F sc_is_crowd fun cdv A outer s H EX hr =>
    (hs_cons (h_ifS ((hw_or (ht_not (ht_val (h_isi .tuple (by rfl) T.b_isinstance (by rfl) T.b_tuple bb_tuple (p_n 0)))) (hw_or (hpt_cmp (op_neD (hu64 hr)) s_neK (nomark _) (p_a (hp_b1 call_len_seq s_len (by rfl) T.b_len bb_len (p_n 0))) (p_a h_int)) (hw_or1 (ht_not (ht_val (hc_call (k := 1) c_is_whole (hr.mono (by decide)) (by exact takes_of rfl rfl rfl rfl) (by rfl) (ha_cons (hp_ix o_ix s_ix (by intro _ _; rfl) (p_n 0) (p_a h_int)) (ha_cons h_int (ha_cons (hp_op2 o_mul s_mul (p_a h_int) (p_a (h_con (by rfl) T.c_MOST_PLACE))) ha_nil))) (el_cons (el_cons (el_cons el_nil)))))))))).pt (hs_cons (h_ret h_bl)
    hs_nil) hs_nil)
    (hs_cons (h_put (h_var 0) (g_tup (by rfl) (gs_cons (i := 2) sc_is_crowd.nd (by rfl) (by first | exact Or.inl rfl | exact Or.inr rfl) (gs_cons (i := 3) sc_is_crowd.nd (by rfl) (by first | exact Or.inl rfl | exact Or.inr rfl) (gs_cons (i := 4) sc_is_crowd.nd (by rfl) (by first | exact Or.inl rfl | exact Or.inr rfl) gs_nil)))))
    (hs_cons (h_ifS ((hw_or (ht_not (ht_val (h_isi .tuple (by rfl) T.b_isinstance (by rfl) T.b_tuple bb_tuple (p_n 3)))) (hw_or1 (ht_not (ht_chain op_le op_le s_le s_le h_int (hp_b1 call_len_seq s_len (by rfl) T.b_len bb_len (p_n 3)) (h_con (by rfl) T.c_MOST_FOLK)))))).pt (hs_cons (h_ret h_bl)
    hs_nil) hs_nil)
    (hs_cons (h_for (by exact passes_of rfl) (by rfl) (i_p (p_n 3)) (g_name (i := 1) sc_is_crowd.nd (by rfl) (by first | exact Or.inl rfl | exact Or.inr rfl)) (hs_cons (h_ifS ((hw_or (ht_not (ht_val (h_isi .tuple (by rfl) T.b_isinstance (by rfl) T.b_tuple bb_tuple (p_n 1)))) (hw_or (ht_not (ht_chain op_le op_le s_le s_le h_int (hp_b1 call_len_seq s_len (by rfl) T.b_len bb_len (p_n 1)) (h_con (by rfl) T.c_MOST_STANDS))) (hw_or1 (ht_not (ht_val (hp_b1 (cr_all (by rfl)) s_all (by rfl) T.b_all bb_all (p_a (h_lc (E' := E0) (own := [(("one" : Str), 5)]) (by rfl) sc_is_crowd.nd (i_p (p_n 1)) (blk_ok (by kernel_rfl)) (fun _ _ _ _ _ => (g_name (i := 5) sc_is_crowd.nd (by rfl) (by first | exact Or.inl rfl | exact Or.inr rfl))) (fun _ _ _ _ _ => ht_none) (fun _ _ _ _ _ => (hc_call (k := 2) c_is_stand (hr.mono (by decide)) takes0 (by rfl) (ha_cons (h_var 5) ha_nil) (el_cons el_nil))) (tg_n 5)))))))))).pt (hs_cons (h_ret h_bl)
    hs_nil) hs_nil)
    hs_nil))
    (hs_cons (h_ret (hc_call (k := 2) c_is_folk (hr.mono (by decide)) (by exact takes_of rfl rfl rfl rfl) (by rfl) (ha_cons (h_var 4) (ha_cons (hp_b1 call_len_seq s_len (by rfl) T.b_len bb_len (p_n 3)) ha_nil)) (el_cons (el_cons el_nil))))
    hs_nil)))))
theorem sc_look_crowd : FnScope [("thing" : Str)] [("thing" : Str)] (defScope t_look_crowd) := ⟨rfl, rfl, rfl, by decide +kernel, rfl, by decide +kernel, by decide +kernel⟩
theorem k_look_crowd {f : Addr} {fd : FuncData} {dvs : List V} {kws : List (Str × V)} (T : Txt K mg C) (c_is_crowd : Cal P W K mg base C ("is_crowd" : Str) 3 1 f_is_crowd) (F : FnP K ("look_crowd" : Str) t_look_crowd dvs kws f fd) : FnOk P W K mg base (L2.CX P W) 4 f fd [("thing" : Str)] (spF K C f_look_crowd 1) :=
  fn_okD (k := 3) F sc_look_crowd fun cdv A outer s H EX hr =>
    (hs_cons (h_ifS (ht_not (ht_val (hc_call (k := 3) c_is_crowd (hr.mono (by decide)) (by exact takes_of rfl rfl rfl rfl) (by rfl) (ha_cons (h_var 0) ha_nil) (el_cons el_nil)))) (hs_cons (h_raiseK T.x_BadCrowd (by rfl) (by exact takes_of rfl rfl rfl rfl) (by rfl))
    hs_nil) hs_nil)
    hs_nil)
theorem sc_look_one : FnScope [("crowd" : Str), ("thing" : Str)] [("crowd" : Str), ("thing" : Str)] (defScope t_look_one) := ⟨rfl, rfl, rfl, by decide +kernel, rfl, by decide +kernel, by decide +kernel⟩
theorem k_look_one {f : Addr} {fd : FuncData} {dvs : List V} {kws : List (Str × V)} (T : Txt K mg C) (c_is_whole : Cal P W K mg base C ("is_whole" : Str) 1 3 f_is_whole) (F : FnP K ("look_one" : Str) t_look_one dvs kws f fd) : FnOk P W K mg base (L2.CX P W) 2 f fd [("crowd" : Str), ("thing" : Str)] (spF K C f_look_one 2) :=
  fn_okD (k := 1) F sc_look_one fun cdv A outer s H EX hr =>
    (hs_cons (h_ifS (ht_not (ht_val (hc_call (k := 1) c_is_whole (hr.mono (by decide)) (by exact takes_of rfl rfl rfl rfl) (by rfl) (ha_cons (h_var 1) (ha_cons h_int (ha_cons (hp_op2 op_sub s_sub (p_a (hp_b1 call_len_seq s_len (by rfl) T.b_len bb_len (p_a (hp_ix o_ix s_ix (by intro _ _; rfl) (p_n 0) (p_a h_int))))) (p_a h_int)) ha_nil))) (el_cons (el_cons (el_cons el_nil)))))) (hs_cons (h_raiseK T.x_BadFolk (by rfl) (by exact takes_of rfl rfl rfl rfl) (by rfl))
    hs_nil) hs_nil)
    hs_nil)
theorem sc_look_folk : FnScope [("crowd" : Str), ("thing" : Str)] [("crowd" : Str), ("thing" : Str)] (defScope t_look_folk) := ⟨rfl, rfl, rfl, by decide +kernel, rfl, by decide +kernel, by decide +kernel⟩
theorem k_look_folk {f : Addr} {fd : FuncData} {dvs : List V} {kws : List (Str × V)} (T : Txt K mg C) (c_is_folk : Cal P W K mg base C ("is_folk" : Str) 2 2 f_is_folk) (F : FnP K ("look_folk" : Str) t_look_folk dvs kws f fd) : FnOk P W K mg base (L2.CX P W) 3 f fd [("crowd" : Str), ("thing" : Str)] (spF K C f_look_folk 2) :=
  fn_okD (k := 2) F sc_look_folk fun cdv A outer s H EX hr =>
    (hs_cons (h_ifS (ht_not (ht_val (hc_call (k := 2) c_is_folk (hr.mono (by decide)) (by exact takes_of rfl rfl rfl rfl) (by rfl) (ha_cons (h_var 1) (ha_cons (hp_b1 call_len_seq s_len (by rfl) T.b_len bb_len (p_a (hp_ix o_ix s_ix (by intro _ _; rfl) (p_n 0) (p_a h_int)))) ha_nil)) (el_cons (el_cons el_nil))))) (hs_cons (h_raiseK T.x_BadFolk (by rfl) (by exact takes_of rfl rfl rfl rfl) (by rfl))
    hs_nil) hs_nil)
    hs_nil)
theorem sc_stood : FnScope [("crowd" : Str), ("one" : Str), ("beat" : Str), ("late" : Str), ("row" : Str), ("who" : Str), ("since" : Str), ("many" : Str)] [("crowd" : Str), ("one" : Str), ("beat" : Str), ("late" : Str)] (defScope t_stood) := ⟨rfl, rfl, rfl, by decide +kernel, rfl, by decide +kernel, by decide +kernel⟩
theorem k_stood {f : Addr} {fd : FuncData} {dvs : List V} {kws : List (Str × V)} (T : Txt K mg C)  (F : FnP K ("stood" : Str) t_stood dvs kws f fd) : FnOk P W K mg base (L2.CX P W) 1 f fd [("crowd" : Str), ("one" : Str), ("beat" : Str), ("late" : Str)] (spF K C f_stood 4) :=
  fn_okD (k := 0) F sc_stood fun cdv A outer s H EX hr =>
    (hs_cons (h_set (i := 4) sc_stood.nd (by rfl) (by first | exact Or.inl rfl | exact Or.inr rfl) (hp_ix o_ix s_ix (by intro _ _; rfl) (p_a (hp_ix o_ix s_ix (by intro _ _; rfl) (p_n 0) (p_a h_int))) (p_n 1)))
    (hs_cons (h_for (by exact passes_of rfl) (by rfl) (i_p (p_n 3)) (g_tup (by rfl) (gs_cons (i := 5) sc_stood.nd (by rfl) (by first | exact Or.inl rfl | exact Or.inr rfl) (gs_cons (i := 6) sc_stood.nd (by rfl) (by first | exact Or.inl rfl | exact Or.inr rfl) (gs_cons (i := 7) sc_stood.nd (by rfl) (by first | exact Or.inl rfl | exact Or.inr rfl) gs_nil)))) (hs_cons (h_ifS ((hw_and (hpt_cmp (op_eqD (hu64 hr)) s_eq (nomark _) (p_n 5) (p_n 1)) (hw_and1 (hpt_cmp op_ge s_ge (nomark _) (p_n 2) (p_n 6))))).pt (hs_cons (h_ret (hp_ix o_ix s_ix (by intro _ _; rfl) (p_n 4) (p_a (hp_op2 op_mod s_mod (p_a (hp_op2 op_sub s_sub (p_n 2) (p_n 7))) (p_a (hp_b1 call_len_seq s_len (by rfl) T.b_len bb_len (p_n 4)))))))
    hs_nil) hs_nil)
    hs_nil))
    (hs_cons (h_ret (hp_ix o_ix s_ix (by intro _ _; rfl) (p_n 4) (p_a (hp_op2 op_mod s_mod (p_n 2) (p_a (hp_b1 call_len_seq s_len (by rfl) T.b_len bb_len (p_n 4)))))))
    hs_nil)))
theorem sc_heard : FnScope [("crowd" : Str), ("one" : Str), ("other" : Str), ("beat" : Str), ("late" : Str), ("there" : Str), ("x" : Str), ("y" : Str), ("way" : Str), ("right" : Str), ("up" : Str)] [("crowd" : Str), ("one" : Str), ("other" : Str), ("beat" : Str), ("late" : Str)] (defScope t_heard) := ⟨rfl, rfl, rfl, by decide +kernel, rfl, by decide +kernel, by decide +kernel⟩
theorem k_heard {f : Addr} {fd : FuncData} {dvs : List V} {kws : List (Str × V)} (T : Txt K mg C) (c_stood : Cal P W K mg base C ("stood" : Str) 1 4 f_stood) (F : FnP K ("heard" : Str) t_heard dvs kws f fd) : FnOk P W K mg base (L2.CX P W) 2 f fd [("crowd" : Str), ("one" : Str), ("other" : Str), ("beat" : Str), ("late" : Str)] (spF K C f_heard 5) :=
  fn_okD (k := 1) F sc_heard fun cdv A outer s H EX hr =>
    (hs_cons (h_put (hc_call (k := 1) c_stood (hr.mono (by decide)) (by exact takes_of rfl rfl rfl rfl) (by rfl) (ha_cons (h_var 0) (ha_cons (h_var 1) (ha_cons (h_var 3) (ha_cons (h_var 4) ha_nil)))) (el_cons (el_cons (el_cons (el_cons el_nil))))) (g_tup (by rfl) (gs_cons (i := 6) sc_heard.nd (by rfl) (by first | exact Or.inl rfl | exact Or.inr rfl) (gs_cons (i := 7) sc_heard.nd (by rfl) (by first | exact Or.inl rfl | exact Or.inr rfl) (gs_cons (i := 8) sc_heard.nd (by rfl) (by first | exact Or.inl rfl | exact Or.inr rfl) gs_nil)))))
    (hs_cons (h_set (i := 5) sc_heard.nd (by rfl) (by first | exact Or.inl rfl | exact Or.inr rfl) (hc_call (k := 1) c_stood (hr.mono (by decide)) (by exact takes_of rfl rfl rfl rfl) (by rfl) (ha_cons (h_var 0) (ha_cons (h_var 2) (ha_cons (h_var 3) (ha_cons (h_var 4) ha_nil)))) (el_cons (el_cons (el_cons (el_cons el_nil))))))
    (hs_cons (h_par (i := 9) (j := 10) (by rfl) sc_heard.nd (by rfl) (by rfl) (by decide) (by rfl) (by rfl) (ha_cons (hp_op2 op_sub s_sub (p_a (hp_ix o_ix s_ix (by intro _ _; rfl) (p_n 5) (p_a h_int))) (p_n 6)) (ha_cons (hp_op2 op_sub s_sub (p_a (hp_ix o_ix s_ix (by intro _ _; rfl) (p_n 5) (p_a h_int))) (p_n 7)) ha_nil)))
    (hs_cons (h_ifS ((hw_or (hpt_cmp (op_eqD (hu64 hr)) s_eq (nomark _) (p_n 1) (p_n 2)) (hw_or1 (hpt_cmp op_gt s_gt (nomark _) (p_a (hp_op2 o_add s_add (p_a (hp_b1 call_abs s_abs (by rfl) T.b_abs bb_abs (p_n 9))) (p_a (hp_b1 call_abs s_abs (by rfl) T.b_abs bb_abs (p_n 10))))) (p_a (hp_ix o_ix s_ix (by intro _ _; rfl) (p_n 0) (p_a h_int))))))).pt (hs_cons (h_ret h_bl)
    hs_nil) hs_nil)
    (hs_cons (h_ret (hp_cmp op_ge s_ge (nomark _) (p_a (hp_op2 o_add s_add (p_a (hp_op2 o_mul s_mul (p_a (hp_ix o_ix s_ix (by intro _ _; rfl) (p_a (hp_ix o_ix s_ix (by intro _ _; rfl) (p_a (h_con (by rfl) T.c_WAYS)) (p_n 8))) (p_a h_int))) (p_n 9))) (p_a (hp_op2 o_mul s_mul (p_a (hp_ix o_ix s_ix (by intro _ _; rfl) (p_a (hp_ix o_ix s_ix (by intro _ _; rfl) (p_a (h_con (by rfl) T.c_WAYS)) (p_n 8))) (p_a h_int))) (p_n 10))))) (p_a h_int)))
    hs_nil)))))
theorem sc_ears : FnScope [("crowd" : Str), ("teller" : Str), ("beat" : Str), ("late" : Str), ("one" : Str)] [("crowd" : Str), ("teller" : Str), ("beat" : Str), ("late" : Str)] (defScope t_ears) := ⟨rfl, rfl, rfl, by decide +kernel, rfl, by decide +kernel, by decide +kernel⟩
theorem k_ears {f : Addr} {fd : FuncData} {dvs : List V} {kws : List (Str × V)} (T : Txt K mg C) (c_heard : Cal P W K mg base C ("heard" : Str) 2 5 f_heard) (F : FnP K ("ears" : Str) t_ears dvs kws f fd) : FnOk P W K mg base (L2.CX P W) 3 f fd [("crowd" : Str), ("teller" : Str), ("beat" : Str), ("late" : Str)] (spF K C f_ears 4) :=
  fn_okD (k := 2) F sc_ears fun cdv A outer s H EX hr =>
    (hs_cons (h_ret (hp_t1 call_tuple_of s_tuple (by rfl) T.b_tuple bb_tuple (p_a (h_lc (E' := E0) (own := [(("one" : Str), 4)]) (by rfl) sc_ears.nd (i_r1 (by rfl) T.b_range (hp_b1 call_len_seq s_len (by rfl) T.b_len bb_len (p_a (hp_ix o_ix s_ix (by intro _ _; rfl) (p_n 0) (p_a h_int))))) (blk_ok (by kernel_rfl)) (fun _ _ _ _ _ => (g_name (i := 4) sc_ears.nd (by rfl) (by first | exact Or.inl rfl | exact Or.inr rfl))) (fun _ _ _ _ _ => (ht_one (ht_val (hc_call (k := 2) c_heard (hr.mono (by decide)) takes0 (by rfl) (ha_cons (h_var 0) (ha_cons (h_var 4) (ha_cons (h_var 1) (ha_cons (h_var 2) (ha_cons (h_var 3) ha_nil))))) (el_cons (el_cons (el_cons (el_cons (el_cons el_nil))))))))) (fun _ _ _ _ _ => (h_var 4)) (tg_n 4)))))
    hs_nil)
theorem sc_may_tell : FnScope [("crowd" : Str), ("teller" : Str), ("beat" : Str), ("late" : Str), ("one" : Str)] [("crowd" : Str), ("teller" : Str), ("beat" : Str), ("late" : Str)] (defScope t_may_tell) := ⟨rfl, rfl, rfl, by decide +kernel, rfl, by decide +kernel, by decide +kernel⟩
theorem k_may_tell {f : Addr} {fd : FuncData} {dvs : List V} {kws : List (Str × V)} (T : Txt K mg C) (c_ears : Cal P W K mg base C ("ears" : Str) 3 4 f_ears) (F : FnP K ("may_tell" : Str) t_may_tell dvs kws f fd) : FnOk P W K mg base (L2.CX P W) 4 f fd [("crowd" : Str), ("teller" : Str), ("beat" : Str), ("late" : Str)] (spF K C f_may_tell 4) :=
  fn_okD (k := 3) F sc_may_tell fun cdv A outer s H EX hr =>
    (hs_cons (h_ifS (hpt_cmp (o_in (hu65 hr)) s_in (by rfl) (p_n 1) (p_a (hp_ix o_ix s_ix (by intro _ _; rfl) (p_n 0) (p_a h_int)))) (hs_cons (h_ret h_bl)
    hs_nil) hs_nil)
    (hs_cons (h_ret (h_not (hp_b1 (cr_any (by rfl)) s_any (by rfl) T.b_any bb_any (p_a (h_lc (E' := E0) (own := [(("one" : Str), 4)]) (by rfl) sc_may_tell.nd (i_p (p_a (hc_call (k := 3) c_ears (hr.mono (by decide)) (by exact takes_of rfl rfl rfl rfl) (by rfl) (ha_cons (h_var 0) (ha_cons (h_var 1) (ha_cons (h_var 2) (ha_cons (h_var 3) ha_nil)))) (el_cons (el_cons (el_cons (el_cons el_nil))))))) (blk_ok (by kernel_rfl)) (fun _ _ _ _ _ => (g_name (i := 4) sc_may_tell.nd (by rfl) (by first | exact Or.inl rfl | exact Or.inr rfl))) (fun _ _ _ _ _ => ht_none) (fun _ _ _ _ _ => (hp_cmp (o_in (hu65 hr)) s_in (by rfl) (p_n 4) (p_a (hp_ix o_ix s_ix (by intro _ _; rfl) (p_n 0) (p_a h_int))))) (tg_n 4))))))
    hs_nil))
theorem sc_common : FnScope [("one" : Str), ("other" : Str)] [("one" : Str), ("other" : Str)] (defScope t_common) := ⟨rfl, rfl, rfl, by decide +kernel, rfl, by decide +kernel, by decide +kernel⟩
theorem k_common {f : Addr} {fd : FuncData} {dvs : List V} {kws : List (Str × V)} (T : Txt K mg C)  (F : FnP K ("common" : Str) t_common dvs kws f fd) : FnOk P W K mg base (L2.CX P W) 1 f fd [("one" : Str), ("other" : Str)] (spF K C f_common 2) :=
  fn_okD (k := 0) F sc_common fun cdv A outer s H EX hr =>
    (hs_cons (h_while (by exact passes_of rfl) (hpt_cmp (op_neD (hu64 hr)) s_neK (nomark _) (p_n 1) (p_a h_int)) (hs_cons (h_par (i := 0) (j := 1) (by rfl) sc_common.nd (by rfl) (by rfl) (by decide) (by rfl) (by rfl) (ha_cons (h_var 1) (ha_cons (hp_op2 op_mod s_mod (p_n 0) (p_n 1)) ha_nil)))
    hs_nil))
    (hs_cons (h_ret (h_var 0))
    hs_nil))
theorem sc_round_of : FnScope [("crowds" : Str), ("found" : Str), ("crowd" : Str), ("row" : Str)] [("crowds" : Str)] (defScope t_round_of) := ⟨rfl, rfl, rfl, by decide +kernel, rfl, by decide +kernel, by decide +kernel⟩
theorem k_round_of {f : Addr} {fd : FuncData} {dvs : List V} {kws : List (Str × V)} (T : Txt K mg C) (c_common : Cal P W K mg base C ("common" : Str) 1 2 f_common) (F : FnP K ("round_of" : Str) t_round_of dvs kws f fd) : FnOk P W K mg base (L2.CX P W) 2 f fd [("crowds" : Str)] (spF K C f_round_of 1) :=
  fn_okD (k := 1) F sc_round_of fun cdv A outer s H EX hr =>
    (hs_cons (h_set (i := 1) sc_round_of.nd (by rfl) (by first | exact Or.inl rfl | exact Or.inr rfl) h_int)
    (hs_cons (h_for (by exact passes_of rfl) (by rfl) (i_p (p_n 0)) (g_name (i := 2) sc_round_of.nd (by rfl) (by first | exact Or.inl rfl | exact Or.inr rfl)) (hs_cons (h_for (by exact passes_of rfl) (by rfl) (i_p (p_a (hp_ix o_ix s_ix (by intro _ _; rfl) (p_n 2) (p_a h_int)))) (g_name (i := 3) sc_round_of.nd (by rfl) (by first | exact Or.inl rfl | exact Or.inr rfl)) (hs_cons (h_set (i := 1) sc_round_of.nd (by rfl) (by first | exact Or.inl rfl | exact Or.inr rfl) (hp_op2 op_fdiv s_div (p_a (hp_op2 o_mul s_mul (p_n 1) (p_a (hp_b1 call_len_seq s_len (by rfl) T.b_len bb_len (p_n 3))))) (p_a (hc_call (k := 1) c_common (hr.mono (by decide)) (by exact takes_of rfl rfl rfl rfl) (by rfl) (ha_cons (h_var 1) (ha_cons (hp_b1 call_len_seq s_len (by rfl) T.b_len bb_len (p_n 3)) ha_nil)) (el_cons (el_cons el_nil))))))
    hs_nil))
    hs_nil))
    (hs_cons (h_ret (h_var 1))
    hs_nil)))
theorem sc_spread : FnScope [("crowd" : Str), ("holders" : Str), ("begin" : Str), ("late" : Str), ("since" : Str), ("still" : Str), ("beat" : Str), ("settled" : Str), ("size" : Str), ("fresh" : Str), ("teller" : Str), ("one" : Str)] [("crowd" : Str), ("holders" : Str), ("begin" : Str), ("late" : Str)] (defScope t_spread) := ⟨rfl, rfl, rfl, by decide +kernel, rfl, by decide +kernel, by decide +kernel⟩
theorem k_spread {f : Addr} {fd : FuncData} {dvs : List V} {kws : List (Str × V)} (T : Txt K mg C) (c_ears : Cal P W K mg base C ("ears" : Str) 3 4 f_ears) (c_may_tell : Cal P W K mg base C ("may_tell" : Str) 4 4 f_may_tell) (c_round_of : Cal P W K mg base C ("round_of" : Str) 2 1 f_round_of) (F : FnP K ("spread" : Str) t_spread dvs kws f fd) : FnOk P W K mg base (L2.CX P W) 5 f fd [("crowd" : Str), ("holders" : Str), ("begin" : Str), ("late" : Str)] (spF K C f_spread 4) :=
  fn_okD (k := 4) F sc_spread fun cdv A outer s H EX hr =>
    (hs_cons (h_own (i := 4) sc_spread.nd (by rfl) (by first | exact Or.inl rfl | exact Or.inr rfl) (h_dcN (E' := E0) (own := [(("one" : Str), 11)]) (by rfl) sc_spread.nd (i_p (p_n 1)) (blk_ok (by kernel_rfl)) (fun _ _ _ _ _ => (g_name (i := 11) sc_spread.nd (by rfl) (by first | exact Or.inl rfl | exact Or.inr rfl))) (fun _ _ _ _ _ => ht_none) (fun _ _ _ _ _ => (h_var 11)) (fun _ _ _ _ _ => (h_var 2)) (tg_n 11)))
    (hs_cons (h_set (i := 5) sc_spread.nd (by rfl) (by first | exact Or.inl rfl | exact Or.inr rfl) h_int)
    (hs_cons (h_set (i := 6) sc_spread.nd (by rfl) (by first | exact Or.inl rfl | exact Or.inr rfl) (h_var 2))
    (hs_cons (h_set (i := 7) sc_spread.nd (by rfl) (by first | exact Or.inl rfl | exact Or.inr rfl) (hp_b1 (cr_max (by rfl)) s_maxL (by rfl) T.b_max bb_max (p_a (hp_op2 o_add s_add (p_a (h_lst (ha_cons (h_var 2) ha_nil))) (p_a (h_lc (E' := E0) (own := [(("one" : Str), 11)]) (by rfl) sc_spread.nd (i_p (p_n 3)) (blk_ok (by kernel_rfl)) (fun _ _ _ _ _ => (g_name (i := 11) sc_spread.nd (by rfl) (by first | exact Or.inl rfl | exact Or.inr rfl))) (fun _ _ _ _ _ => ht_none) (fun _ _ _ _ _ => (hp_ix o_ix s_ix (by intro _ _; rfl) (p_n 11) (p_a h_int))) (tg_n 11)))))))
    (hs_cons (h_set (i := 8) sc_spread.nd (by rfl) (by first | exact Or.inl rfl | exact Or.inr rfl) (hc_call (k := 2) c_round_of (hr.mono (by decide)) (by exact takes_of rfl rfl rfl rfl) (by rfl) (ha_cons (h_lst (ha_cons (h_var 0) ha_nil)) ha_nil) (el_cons el_nil)))
    (hs_cons (h_while (by exact passes_of rfl) ((hw_or (hpt_cmp op_lt s_lt (nomark _) (p_n 5) (p_n 8)) (hw_or1 (hpt_cmp op_lt s_lt (nomark _) (p_n 6) (p_a (hp_op2 o_add s_add (p_n 7) (p_n 8))))))).pt (hs_cons (h_own (i := 9) sc_spread.nd (by rfl) (by first | exact Or.inl rfl | exact Or.inr rfl) h_dI0)
    (hs_cons (h_lk 4 (h_for (by exact passes_of rfl) (by rfl) (i_p (p_n 4)) (g_name (i := 10) sc_spread.nd (by rfl) (by first | exact Or.inl rfl | exact Or.inr rfl)) (hs_cons (h_ifS ((hw_and (hpt_cmp op_le s_le (nomark _) (p_a (h_ix2 (hu1 hr) (by intro _ _; rfl) (p_n 4) (p_n 10))) (p_n 6)) (hw_and1 (ht_val (hc_call (k := 4) c_may_tell (hr.mono (by decide)) (by exact takes_of rfl rfl rfl rfl) (by rfl) (ha_cons (h_var 0) (ha_cons (h_var 10) (ha_cons (h_var 6) (ha_cons (h_var 3) ha_nil)))) (el_cons (el_cons (el_cons (el_cons el_nil))))))))).pt (hs_cons (h_ior (i := 9) sc_spread.nd (by rfl) (by first | exact Or.inl rfl | exact Or.inr rfl) (h_fzN (h_dcN (E' := E0) (own := [(("one" : Str), 11)]) (by rfl) sc_spread.nd (i_p (p_a (hc_call (k := 3) c_ears (hr.mono (by decide)) (by exact takes_of rfl rfl rfl rfl) (by rfl) (ha_cons (h_var 0) (ha_cons (h_var 10) (ha_cons (h_var 6) (ha_cons (h_var 3) ha_nil)))) (el_cons (el_cons (el_cons (el_cons el_nil))))))) (blk_ok (by kernel_rfl)) (fun _ _ _ _ _ => (g_name (i := 11) sc_spread.nd (by rfl) (by first | exact Or.inl rfl | exact Or.inr rfl))) (fun _ _ _ _ _ => (ht_one (ht_nin2 (hu65 hr) (by rfl) (p_n 11) (p_n 4)))) (fun _ _ _ _ _ => (h_var 11)) (fun _ _ _ _ _ => h_bl) (tg_n 11))))
    hs_nil) hs_nil)
    hs_nil)))
    (hs_cons (h_lk 9 (h_ior (i := 4) sc_spread.nd (by rfl) (by first | exact Or.inl rfl | exact Or.inr rfl) (h_fzN (h_dcN (E' := E0) (own := [(("one" : Str), 11)]) (by rfl) sc_spread.nd (i_p (p_n 9)) (blk_ok (by kernel_rfl)) (fun _ _ _ _ _ => (g_name (i := 11) sc_spread.nd (by rfl) (by first | exact Or.inl rfl | exact Or.inr rfl))) (fun _ _ _ _ _ => ht_none) (fun _ _ _ _ _ => (h_var 11)) (fun _ _ _ _ _ => (hp_op2 o_add s_add (p_n 6) (p_a h_int))) (tg_n 11)))))
    (hs_cons (h_set (i := 5) sc_spread.nd (by rfl) (by first | exact Or.inl rfl | exact Or.inr rfl) (h_if (hpt_cmp (o_ne2 (hu64 hr)) s_ne2 (nomark _) (p_n 9) (p_a (h_fzN h_dI0))) h_int (hp_op2 o_add s_add (p_n 5) (p_a h_int))))
    (hs_cons (h_aug (i := 6) ip_addI ip_add sc_spread.nd (by rfl) (by first | exact Or.inl rfl | exact Or.inr rfl) h_int)
    hs_nil))))))
    (h_fzD 4 (hs_cons (h_ret (h_var 4))
    hs_nil))))))))
theorem sc_closed : FnScope [("crowd" : Str), ("holders" : Str), ("found" : Str), ("size" : Str), ("at" : Str), ("teller" : Str), ("beat" : Str), ("one" : Str)] [("crowd" : Str), ("holders" : Str)] (defScope t_closed) := ⟨rfl, rfl, rfl, by decide +kernel, rfl, by decide +kernel, by decide +kernel⟩
theorem k_closed {f : Addr} {fd : FuncData} {dvs : List V} {kws : List (Str × V)} (T : Txt K mg C) (c_ears : Cal P W K mg base C ("ears" : Str) 3 4 f_ears) (c_may_tell : Cal P W K mg base C ("may_tell" : Str) 4 4 f_may_tell) (c_round_of : Cal P W K mg base C ("round_of" : Str) 2 1 f_round_of) (F : FnP K ("closed" : Str) t_closed dvs kws f fd) : FnOk P W K mg base (L2.CX P W) 5 f fd [("crowd" : Str), ("holders" : Str)] (spF K C f_closed 2) :=
  fn_okD (k := 4) F sc_closed fun cdv A outer s H EX hr =>
    (hs_cons (h_own (i := 2) sc_closed.nd (by rfl) (by first | exact Or.inl rfl | exact Or.inr rfl) (h_listN (by rfl) T.b_list bb_list (p_n 1)))
    (hs_cons (h_set (i := 3) sc_closed.nd (by rfl) (by first | exact Or.inl rfl | exact Or.inr rfl) (hc_call (k := 2) c_round_of (hr.mono (by decide)) (by exact takes_of rfl rfl rfl rfl) (by rfl) (ha_cons (h_lst (ha_cons (h_var 0) ha_nil)) ha_nil) (el_cons el_nil)))
    (hs_cons (h_set (i := 4) sc_closed.nd (by rfl) (by first | exact Or.inl rfl | exact Or.inr rfl) h_int)
    (hs_cons (h_while (by exact passes_of rfl) (hpt_cmp op_lt s_lt (nomark _) (p_n 4) (p_a (hp_b1 call_len_seq s_len (by rfl) T.b_len bb_len (p_n 2)))) (hs_cons (h_set (i := 5) sc_closed.nd (by rfl) (by first | exact Or.inl rfl | exact Or.inr rfl) (hp_ix o_ix s_ix (by intro _ _; rfl) (p_n 2) (p_n 4)))
    (hs_cons (h_for (by exact passes_of rfl) (by rfl) (i_r1 (by rfl) T.b_range (h_var 3)) (g_name (i := 6) sc_closed.nd (by rfl) (by first | exact Or.inl rfl | exact Or.inr rfl)) (hs_cons (h_ifS (ht_val (hc_call (k := 4) c_may_tell (hr.mono (by decide)) (by exact takes_of rfl rfl rfl rfl) (by rfl) (ha_cons (h_var 0) (ha_cons (h_var 5) (ha_cons (h_var 6) (ha_cons (h_tup ha_nil) ha_nil)))) (el_cons (el_cons (el_cons (el_cons el_nil)))))) (hs_cons (h_ext (i := 2) sc_closed.nd (by rfl) (by first | exact Or.inl rfl | exact Or.inr rfl) (h_lc (E' := E0) (own := [(("one" : Str), 7)]) (by rfl) sc_closed.nd (i_p (p_a (hc_call (k := 3) c_ears (hr.mono (by decide)) (by exact takes_of rfl rfl rfl rfl) (by rfl) (ha_cons (h_var 0) (ha_cons (h_var 5) (ha_cons (h_var 6) (ha_cons (h_tup ha_nil) ha_nil)))) (el_cons (el_cons (el_cons (el_cons el_nil))))))) (blk_ok (by kernel_rfl)) (fun _ _ _ _ _ => (g_name (i := 7) sc_closed.nd (by rfl) (by first | exact Or.inl rfl | exact Or.inr rfl))) (fun _ _ _ _ _ => (ht_one (hpt_cmp (o_notin (hu65 hr)) s_notin (by rfl) (p_n 7) (p_n 2)))) (fun _ _ _ _ _ => (h_var 7)) (tg_n 7)))
    hs_nil) hs_nil)
    hs_nil))
    (hs_cons (h_aug (i := 4) ip_addI ip_add sc_closed.nd (by rfl) (by first | exact Or.inl rfl | exact Or.inr rfl) h_int)
    hs_nil))))
    (hs_cons (h_ret (hp_t1 call_tuple_of s_tuple (by rfl) T.b_tuple bb_tuple (p_a (hp_b1 (cr_sorted1 (by rfl)) s_sorted (by rfl) T.b_sorted bb_sorted (p_n 2)))))
    hs_nil)))))
theorem sc_best_begin : FnScope [("crowd" : Str), ("holders" : Str), ("goal" : Str), ("best" : Str), ("begin" : Str), ("since" : Str)] [("crowd" : Str), ("holders" : Str), ("goal" : Str)] (defScope t_best_begin) := ⟨rfl, rfl, rfl, by decide +kernel, rfl, by decide +kernel, by decide +kernel⟩
theorem k_best_begin {f : Addr} {fd : FuncData} {dvs : List V} {kws : List (Str × V)} (T : Txt K mg C) (c_look_crowd : Cal P W K mg base C ("look_crowd" : Str) 4 1 f_look_crowd) (c_look_one : Cal P W K mg base C ("look_one" : Str) 2 2 f_look_one) (c_look_folk : Cal P W K mg base C ("look_folk" : Str) 3 2 f_look_folk) (c_round_of : Cal P W K mg base C ("round_of" : Str) 2 1 f_round_of) (c_spread : Cal P W K mg base C ("spread" : Str) 5 4 f_spread) (F : FnP K ("best_begin" : Str) t_best_begin dvs kws f fd) : FnOk P W K mg base (L2.CX P W) 6 f fd [("crowd" : Str), ("holders" : Str), ("goal" : Str)] (spF K C f_best_begin 3) :=
  fn_okD (k := 5) F sc_best_begin fun cdv A outer s H EX hr =>
    (hs_cons (h_ex (hc_call (k := 4) c_look_crowd (hr.mono (by decide)) (by exact takes_of rfl rfl rfl rfl) (by rfl) (ha_cons (h_var 0) ha_nil) (el_cons el_nil)))
    (hs_cons (h_ex (hc_call (k := 3) c_look_folk (hr.mono (by decide)) (by exact takes_of rfl rfl rfl rfl) (by rfl) (ha_cons (h_var 0) (ha_cons (h_var 1) ha_nil)) (el_cons (el_cons el_nil))))
    (hs_cons (h_ex (hc_call (k := 2) c_look_one (hr.mono (by decide)) (by exact takes_of rfl rfl rfl rfl) (by rfl) (ha_cons (h_var 0) (ha_cons (h_var 2) ha_nil)) (el_cons (el_cons el_nil))))
    (hs_cons (h_set (i := 3) sc_best_begin.nd (by rfl) (by first | exact Or.inl rfl | exact Or.inr rfl) h_non)
    (hs_cons (h_for (by exact passes_of rfl) (by rfl) (i_r1 (by rfl) T.b_range (hc_call (k := 2) c_round_of (hr.mono (by decide)) (by exact takes_of rfl rfl rfl rfl) (by rfl) (ha_cons (h_lst (ha_cons (h_var 0) ha_nil)) ha_nil) (el_cons el_nil))) (g_name (i := 4) sc_best_begin.nd (by rfl) (by first | exact Or.inl rfl | exact Or.inr rfl)) (hs_cons (h_set (i := 5) sc_best_begin.nd (by rfl) (by first | exact Or.inl rfl | exact Or.inr rfl) (h_get1 (hu1 hr) (p_a (hc_call (k := 5) c_spread (hr.mono (by decide)) (by exact takes_of rfl rfl rfl rfl) (by rfl) (ha_cons (h_var 0) (ha_cons (h_var 1) (ha_cons (h_var 4) (ha_cons (h_tup ha_nil) ha_nil)))) (el_cons (el_cons (el_cons (el_cons el_nil)))))) (h_var 2) ⟨by rfl, by rfl, by rfl, by rfl⟩))
    (hs_cons (h_ifS ((hw_and (hpt_cmp o_isnot s_isnot (nomark _) (p_n 5) (p_a h_non)) (hw_and1 ((hw_or (hpt_cmp o_is s_is (nomark _) (p_n 3) (p_a h_non)) (hw_or1 (hpt_cmp op_lt s_lt (nomark _) (p_a (hp_op2 op_sub s_sub (p_n 5) (p_n 4))) (p_a (hp_ix o_ix s_ix (by intro _ _; rfl) (p_n 3) (p_a h_int))))))).pt))).pt (hs_cons (h_set (i := 3) sc_best_begin.nd (by rfl) (by first | exact Or.inl rfl | exact Or.inr rfl) (h_tup (ha_cons (h_var 4) (ha_cons (hp_op2 op_sub s_sub (p_n 5) (p_n 4)) ha_nil))))
    hs_nil) hs_nil)
    hs_nil)))
    (hs_cons (h_ifS (hpt_cmp o_is s_is (nomark _) (p_n 3) (p_a h_non)) (hs_cons (h_raiseK T.x_NoneSuch (by rfl) (by exact takes_of rfl rfl rfl rfl) (by rfl))
    hs_nil) hs_nil)
    (hs_cons (h_ret (h_var 3))
    hs_nil)))))))
theorem sc_keepers : FnScope [("crowd" : Str), ("holders" : Str), ("goal" : Str), ("found" : Str), ("one" : Str)] [("crowd" : Str), ("holders" : Str), ("goal" : Str)] (defScope t_keepers) := ⟨rfl, rfl, rfl, by decide +kernel, rfl, by decide +kernel, by decide +kernel⟩
theorem k_keepers {f : Addr} {fd : FuncData} {dvs : List V} {kws : List (Str × V)} (T : Txt K mg C) (c_look_crowd : Cal P W K mg base C ("look_crowd" : Str) 4 1 f_look_crowd) (c_look_one : Cal P W K mg base C ("look_one" : Str) 2 2 f_look_one) (c_look_folk : Cal P W K mg base C ("look_folk" : Str) 3 2 f_look_folk) (c_closed : Cal P W K mg base C ("closed" : Str) 5 2 f_closed) (c_silent : Cal P W K mg base C ("silent" : Str) 5 3 f_silent) (F : FnP K ("keepers" : Str) t_keepers dvs kws f fd) : FnOk P W K mg base (L2.CX P W) 6 f fd [("crowd" : Str), ("holders" : Str), ("goal" : Str)] (spF K C f_keepers 3) :=
  fn_okD (k := 5) F sc_keepers fun cdv A outer s H EX hr =>
    (hs_cons (h_ex (hc_call (k := 4) c_look_crowd (hr.mono (by decide)) (by exact takes_of rfl rfl rfl rfl) (by rfl) (ha_cons (h_var 0) ha_nil) (el_cons el_nil)))
    (hs_cons (h_ex (hc_call (k := 3) c_look_folk (hr.mono (by decide)) (by exact takes_of rfl rfl rfl rfl) (by rfl) (ha_cons (h_var 0) (ha_cons (h_var 1) ha_nil)) (el_cons (el_cons el_nil))))
    (hs_cons (h_ex (hc_call (k := 2) c_look_one (hr.mono (by decide)) (by exact takes_of rfl rfl rfl rfl) (by rfl) (ha_cons (h_var 0) (ha_cons (h_var 2) ha_nil)) (el_cons (el_cons el_nil))))
    (hs_cons (h_ifS (hpt_cmp (o_notin (hu65 hr)) s_notin (by rfl) (p_n 2) (p_a (hc_call (k := 5) c_closed (hr.mono (by decide)) (by exact takes_of rfl rfl rfl rfl) (by rfl) (ha_cons (h_var 0) (ha_cons (h_var 1) ha_nil)) (el_cons (el_cons el_nil))))) (hs_cons (h_raiseK T.x_NoneSuch (by rfl) (by exact takes_of rfl rfl rfl rfl) (by rfl))
    hs_nil) hs_nil)
    (hs_cons (h_own (i := 3) sc_keepers.nd (by rfl) (by first | exact Or.inl rfl | exact Or.inr rfl) (h_lstN ha_nil))
    (hs_cons (h_for (by exact passes_of rfl) (by rfl) (i_r1 (by rfl) T.b_range (hp_b1 call_len_seq s_len (by rfl) T.b_len bb_len (p_a (hp_ix o_ix s_ix (by intro _ _; rfl) (p_n 0) (p_a h_int))))) (g_name (i := 4) sc_keepers.nd (by rfl) (by first | exact Or.inl rfl | exact Or.inr rfl)) (hs_cons (h_ifS ((hw_and (hpt_cmp (o_notin (hu65 hr)) s_notin (by rfl) (p_n 4) (p_n 1)) (hw_and (hpt_cmp (op_neD (hu64 hr)) s_neK (nomark _) (p_n 4) (p_n 2)) (hw_and1 (hpt_cmp (o_notin (hu65 hr)) s_notin (by rfl) (p_n 2) (p_a (hc_call (k := 5) c_silent (hr.mono (by decide)) (by exact takes_of rfl rfl rfl rfl) (by rfl) (ha_cons (h_var 0) (ha_cons (h_var 1) (ha_cons (h_var 4) ha_nil))) (el_cons (el_cons (el_cons el_nil)))))))))).pt (hs_cons (h_app (i := 3) (by rfl) (by first | exact Or.inl rfl | exact Or.inr (Or.inl rfl) | exact Or.inr (Or.inr rfl)) (h_var 4))
    hs_nil) hs_nil)
    hs_nil))
    (h_fzS 3 (hs_cons (h_ret (h_var 3))
    hs_nil))))))))
theorem sc_silent : FnScope [("crowd" : Str), ("holders" : Str), ("dumb" : Str), ("found" : Str), ("size" : Str), ("at" : Str), ("teller" : Str), ("beat" : Str), ("one" : Str)] [("crowd" : Str), ("holders" : Str), ("dumb" : Str)] (defScope t_silent) := ⟨rfl, rfl, rfl, by decide +kernel, rfl, by decide +kernel, by decide +kernel⟩
theorem k_silent {f : Addr} {fd : FuncData} {dvs : List V} {kws : List (Str × V)} (T : Txt K mg C) (c_ears : Cal P W K mg base C ("ears" : Str) 3 4 f_ears) (c_may_tell : Cal P W K mg base C ("may_tell" : Str) 4 4 f_may_tell) (c_round_of : Cal P W K mg base C ("round_of" : Str) 2 1 f_round_of) (F : FnP K ("silent" : Str) t_silent dvs kws f fd) : FnOk P W K mg base (L2.CX P W) 5 f fd [("crowd" : Str), ("holders" : Str), ("dumb" : Str)] (spF K C f_silent 3) :=
  fn_okD (k := 4) F sc_silent fun cdv A outer s H EX hr =>
    (hs_cons (h_own (i := 3) sc_silent.nd (by rfl) (by first | exact Or.inl rfl | exact Or.inr rfl) (h_listN (by rfl) T.b_list bb_list (p_n 1)))
    (hs_cons (h_set (i := 4) sc_silent.nd (by rfl) (by first | exact Or.inl rfl | exact Or.inr rfl) (hc_call (k := 2) c_round_of (hr.mono (by decide)) (by exact takes_of rfl rfl rfl rfl) (by rfl) (ha_cons (h_lst (ha_cons (h_var 0) ha_nil)) ha_nil) (el_cons el_nil)))
    (hs_cons (h_set (i := 5) sc_silent.nd (by rfl) (by first | exact Or.inl rfl | exact Or.inr rfl) h_int)
    (hs_cons (h_while (by exact passes_of rfl) (hpt_cmp op_lt s_lt (nomark _) (p_n 5) (p_a (hp_b1 call_len_seq s_len (by rfl) T.b_len bb_len (p_n 3)))) (hs_cons (h_set (i := 6) sc_silent.nd (by rfl) (by first | exact Or.inl rfl | exact Or.inr rfl) (hp_ix o_ix s_ix (by intro _ _; rfl) (p_n 3) (p_n 5)))
    (hs_cons (h_for (by exact passes_of rfl) (by rfl) (i_r1 (by rfl) T.b_range (h_var 4)) (g_name (i := 7) sc_silent.nd (by rfl) (by first | exact Or.inl rfl | exact Or.inr rfl)) (hs_cons (h_ifS ((hw_and (hpt_cmp (op_neD (hu64 hr)) s_neK (nomark _) (p_n 6) (p_n 2)) (hw_and1 (ht_val (hc_call (k := 4) c_may_tell (hr.mono (by decide)) (by exact takes_of rfl rfl rfl rfl) (by rfl) (ha_cons (h_var 0) (ha_cons (h_var 6) (ha_cons (h_var 7) (ha_cons (h_tup ha_nil) ha_nil)))) (el_cons (el_cons (el_cons (el_cons el_nil))))))))).pt (hs_cons (h_ext (i := 3) sc_silent.nd (by rfl) (by first | exact Or.inl rfl | exact Or.inr rfl) (h_lc (E' := E0) (own := [(("one" : Str), 8)]) (by rfl) sc_silent.nd (i_p (p_a (hc_call (k := 3) c_ears (hr.mono (by decide)) (by exact takes_of rfl rfl rfl rfl) (by rfl) (ha_cons (h_var 0) (ha_cons (h_var 6) (ha_cons (h_var 7) (ha_cons (h_tup ha_nil) ha_nil)))) (el_cons (el_cons (el_cons (el_cons el_nil))))))) (blk_ok (by kernel_rfl)) (fun _ _ _ _ _ => (g_name (i := 8) sc_silent.nd (by rfl) (by first | exact Or.inl rfl | exact Or.inr rfl))) (fun _ _ _ _ _ => (ht_one (hpt_cmp (o_notin (hu65 hr)) s_notin (by rfl) (p_n 8) (p_n 3)))) (fun _ _ _ _ _ => (h_var 8)) (tg_n 8)))
    hs_nil) hs_nil)
    hs_nil))
    (hs_cons (h_aug (i := 5) ip_addI ip_add sc_silent.nd (by rfl) (by first | exact Or.inl rfl | exact Or.inr rfl) h_int)
    hs_nil))))
    (h_fzS 3 (hs_cons (h_ret (h_var 3))
    hs_nil))))))
theorem sc_law_town : FnScope [("_law_script" : Str)] [("_law_script" : Str)] (defScope t_law_town) := ⟨rfl, rfl, rfl, by decide +kernel, rfl, by decide +kernel, by decide +kernel⟩
theorem k_law_town {f : Addr} {fd : FuncData} {dvs : List V} {kws : List (Str × V)} (T : Txt K mg C)  (F : FnP K ("_law_town" : Str) t_law_town dvs kws f fd) : FnOk P W K mg base (L2.CX P W) 1 f fd [("_law_script" : Str)] (spF K C f_law_town 1) :=
  fn_okD (k := 0) F sc_law_town fun cdv A outer s H EX hr =>
    (hs_cons (h_ret (h_box (h_lstN (ha_cons (h_box (h_ifN (hpt_cmp (op_neD (hu64 hr)) s_neK (nomark _) (p_n 0) (p_a (h_lst ha_nil))) (h_listN (by rfl) T.b_list bb_list (p_n 0)) (h_lstN (ha_cons h_int ha_nil)))) (ha_cons h_int ha_nil)))))
    hs_nil)
theorem sc_law_draw : FnScope [("_law_town_here" : Str), ("_law_count" : Str), ("_law_numbers" : Str), ("_law_at" : Str), ("_law_cell" : Str), ("_law_mixed" : Str)] [("_law_town_here" : Str), ("_law_count" : Str)] (defScope t_law_draw) := ⟨rfl, rfl, rfl, by decide +kernel, rfl, by decide +kernel, by decide +kernel⟩
theorem k_law_draw {f : Addr} {fd : FuncData} {dvs : List V} {kws : List (Str × V)} (T : Txt K mg C)  (F : FnP K ("_law_draw" : Str) t_law_draw dvs kws f fd) : FnOk P W K mg base (L2.CX P W) 1 f fd [("_law_town_here" : Str), ("_law_count" : Str)] (spF K C f_law_draw 2) :=
  fn_okD (k := 0) F sc_law_draw fun cdv A outer s H EX hr =>
    (hs_cons (h_set (i := 2) sc_law_draw.nd (by rfl) (by first | exact Or.inl rfl | exact Or.inr rfl) (hp_ix o_ix s_ix (by intro _ _; rfl) (p_n 0) (p_a h_int)))
    (hs_cons (h_setC (hp_op2 o_add s_add (p_a (hp_ix o_ix s_ix (by intro _ _; rfl) (p_n 0) (p_a h_int))) (p_a h_int)) (h_var 0) h_int)
    (hs_cons (h_set (i := 3) sc_law_draw.nd (by rfl) (by first | exact Or.inl rfl | exact Or.inr rfl) (hp_op2 op_mod s_mod (p_a (hp_ix o_ix s_ix (by intro _ _; rfl) (p_n 0) (p_a h_int))) (p_a (hp_b1 call_len_seq s_len (by rfl) T.b_len bb_len (p_n 2)))))
    (hs_cons (h_set (i := 4) sc_law_draw.nd (by rfl) (by first | exact Or.inl rfl | exact Or.inr rfl) (hp_ix o_ix s_ix (by intro _ _; rfl) (p_n 2) (p_n 3)))
    (hs_cons (h_ifS (hpt_cmp op_ge s_ge (nomark _) (p_n 4) (p_a h_int)) (hs_cons (h_setC (hp_op2 op_fdiv s_div (p_n 4) (p_n 1)) (h_var 2) (h_var 3))
    (hs_cons (h_ret (hp_op2 op_mod s_mod (p_n 4) (p_n 1)))
    hs_nil)) hs_nil)
    (hs_cons (h_set (i := 5) sc_law_draw.nd (by rfl) (by first | exact Or.inl rfl | exact Or.inr rfl) (hp_op2 op_mod s_mod (p_a (hp_op2 o_add s_add (p_n 4) (p_a (hp_op2 o_mul s_mul (p_a h_int) (p_a (hp_ix o_ix s_ix (by intro _ _; rfl) (p_n 0) (p_a h_int))))))) (p_a h_int)))
    (hs_cons (h_set (i := 5) sc_law_draw.nd (by rfl) (by first | exact Or.inl rfl | exact Or.inr rfl) (hp_op2 op_mod s_mod (p_a (hp_op2 op_pow s_pow (p_n 5) (p_a h_int))) (p_a h_int)))
    (hs_cons (h_ret (hp_op2 op_mod s_mod (p_a (hp_op2 op_fdiv s_div (p_a (hp_op2 op_mod s_mod (p_a (hp_op2 o_add s_add (p_a (hp_op2 o_mul s_mul (p_a (hp_op2 op_fdiv s_div (p_n 5) (p_a h_int))) (p_a h_int))) (p_n 5))) (p_a h_int))) (p_a h_int))) (p_n 1)))
    hs_nil))))))))
theorem sc_law_pick : FnScope [("_law_town_here" : Str), ("_law_some_here" : Str)] [("_law_town_here" : Str), ("_law_some_here" : Str)] (defScope t_law_pick) := ⟨rfl, rfl, rfl, by decide +kernel, rfl, by decide +kernel, by decide +kernel⟩
theorem k_law_pick {f : Addr} {fd : FuncData} {dvs : List V} {kws : List (Str × V)} (T : Txt K mg C) (c_law_draw : Cal P W K mg base C ("_law_draw" : Str) 1 2 f_law_draw) (F : FnP K ("_law_pick" : Str) t_law_pick dvs kws f fd) : FnOk P W K mg base (L2.CX P W) 2 f fd [("_law_town_here" : Str), ("_law_some_here" : Str)] (spF K C f_law_pick 2) :=
  fn_okD (k := 1) F sc_law_pick fun cdv A outer s H EX hr =>
    (hs_cons (h_ret (hp_ix o_ix s_ix (by intro _ _; rfl) (p_n 1) (p_a (hc_call (k := 1) c_law_draw (hr.mono (by decide)) (by exact takes_of rfl rfl rfl rfl) (by rfl) (ha_cons (h_var 0) (ha_cons (hp_b1 call_len_seq s_len (by rfl) T.b_len bb_len (p_n 1)) ha_nil)) (el_cons (el_cons el_nil))))))
    hs_nil)
theorem sc_law_refusal : FnScope [("_law_caught" : Str), ("_law_sorts" : Str)] [("_law_caught" : Str)] (defScope t_law_refusal) := ⟨rfl, rfl, rfl, by decide +kernel, rfl, by decide +kernel, by decide +kernel⟩
theorem k_law_refusal {f : Addr} {fd : FuncData} {dvs : List V} {kws : List (Str × V)} (T : Txt K mg C)  (F : FnP K ("_law_refusal" : Str) t_law_refusal dvs kws f fd) : FnOk P W K mg base (L2.CX P W) 1 f fd [("_law_caught" : Str)] (spF K C f_law_refusal 1) :=
  fn_okD (k := 0) F sc_law_refusal fun cdv A outer s H EX hr =>
    (hs_cons (h_set (i := 1) sc_law_refusal.nd (by rfl) (by first | exact Or.inl rfl | exact Or.inr rfl) (h_lst (ha_cons (h_isOwn T.ec T.i_BadCrowd.2 T.i_BadCrowd.1 (by rfl) (by rfl) T.b_isinstance (p_n 0)) (ha_cons (h_isOwn T.ec T.i_BadFolk.2 T.i_BadFolk.1 (by rfl) (by rfl) T.b_isinstance (p_n 0)) (ha_cons (h_isOwn T.ec T.i_BadBeat.2 T.i_BadBeat.1 (by rfl) (by rfl) T.b_isinstance (p_n 0)) ha_nil)))))
    (hs_cons (h_set (i := 1) sc_law_refusal.nd (by rfl) (by first | exact Or.inl rfl | exact Or.inr rfl) (hp_op2 o_add s_add (p_n 1) (p_a (h_lst (ha_cons (h_isOwn T.ec T.i_BadRow.2 T.i_BadRow.1 (by rfl) (by rfl) T.b_isinstance (p_n 0)) (ha_cons (h_isOwn T.ec T.i_BadNotes.2 T.i_BadNotes.1 (by rfl) (by rfl) T.b_isinstance (p_n 0)) (ha_cons (h_isOwn T.ec T.i_BadPaper.2 T.i_BadPaper.1 (by rfl) (by rfl) T.b_isinstance (p_n 0)) ha_nil)))))))
    (hs_cons (h_set (i := 1) sc_law_refusal.nd (by rfl) (by first | exact Or.inl rfl | exact Or.inr rfl) (hp_op2 o_add s_add (p_n 1) (p_a (h_lst (ha_cons (h_isOwn T.ec T.i_BadText.2 T.i_BadText.1 (by rfl) (by rfl) T.b_isinstance (p_n 0)) (ha_cons (h_isOwn T.ec T.i_NoneSuch.2 T.i_NoneSuch.1 (by rfl) (by rfl) T.b_isinstance (p_n 0)) ha_nil))))))
    (hs_cons (h_ifS ((hw_or (hpt_cmp (op_neD (hu64 hr)) s_neK (nomark _) (p_a (h_cntB (p_n 1) ⟨by rfl, by rfl, by rfl, by rfl⟩)) (p_a h_int)) (hw_or (ht_not (ht_val (h_isOwn T.ec T.i_HushError.2 T.i_HushError.1 (by rfl) (by rfl) T.b_isinstance (p_n 0)))) (hw_or1 (ht_not (ht_val (h_isVE T.ec T.i_ValueError T.b_ValueError (by rfl) (by rfl) T.b_isinstance (p_n 0)))))))).pt (hs_cons (h_ret h_str)
    hs_nil) hs_nil)
    (hs_cons (h_ret (hp_ix o_ix s_ix (by intro _ _; rfl) (p_a (h_lst (ha_cons h_str (ha_cons h_str (ha_cons h_str (ha_cons h_str (ha_cons h_str (ha_cons h_str (ha_cons h_str (ha_cons h_str ha_nil)))))))))) (p_a (h_idxB (p_n 1) ⟨by rfl, by rfl, by rfl, by rfl⟩))))
    hs_nil)))))
theorem sc_law_meetings : FnScope [("_law_town_here" : Str), ("_law_count" : Str), ("_law_long_of" : Str), ("_law_size_here" : Str), ("_law_rows" : Str), ("_law_line_like" : Str), ("_law_beat" : Str), ("_law_barred_ones" : Str), ("_law_left" : Str), ("_law_spots" : Str), ("_law_k" : Str), ("_law_x" : Str), ("_law_y" : Str), ("_law_px" : Str), ("_law_py" : Str), ("_law_way" : Str), ("_law_one" : Str), ("_law_row" : Str)] [("_law_town_here" : Str), ("_law_count" : Str), ("_law_long_of" : Str)] (defScope t_law_meetings) := ⟨rfl, rfl, rfl, by decide +kernel, rfl, by decide +kernel, by decide +kernel⟩
theorem k_law_meetings {f : Addr} {fd : FuncData} {dvs : List V} {kws : List (Str × V)} (T : Txt K mg C) (c_law_draw : Cal P W K mg base C ("_law_draw" : Str) 1 2 f_law_draw) (c_law_pick : Cal P W K mg base C ("_law_pick" : Str) 2 2 f_law_pick) (F : FnP K ("_law_meetings" : Str) t_law_meetings dvs kws f fd) : FnOk P W K mg base (L2.CX P W) 3 f fd [("_law_town_here" : Str), ("_law_count" : Str), ("_law_long_of" : Str)] (spF K C f_law_meetings 3) :=
  fn_okD (k := 2) F sc_law_meetings fun cdv A outer s H EX hr =>
    (hs_cons (h_set (i := 3) sc_law_meetings.nd (by rfl) (by first | exact Or.inl rfl | exact Or.inr rfl) (hp_op2 o_add s_add (p_a h_int) (p_a (hc_call (k := 1) c_law_draw (hr.mono (by decide)) (by exact takes_of rfl rfl rfl rfl) (by rfl) (ha_cons (h_var 0) (ha_cons (h_var 2) ha_nil)) (el_cons (el_cons el_nil))))))
    (hs_cons (h_ownLc (E' := E0) (i := 4) (own := [(("_law_k" : Str), 10)]) (by rfl) sc_law_meetings.nd (by rfl) (by rfl) (by kernel_rfl) (i_r1 (by rfl) T.b_range (h_var 1)) (blk_ok (by kernel_rfl)) (fun _ _ _ _ _ => (g_name (i := 10) sc_law_meetings.nd (by rfl) (by first | exact Or.inl rfl | exact Or.inr rfl))) (fun _ _ _ _ _ => ht_none) (fun _ _ _ _ _ => (h_box (h_lstN ha_nil))) (tg_n 10))
    (h_fzS 4 (hs_cons (h_set (i := 5) sc_law_meetings.nd (by rfl) (by first | exact Or.inl rfl | exact Or.inr rfl) (hp_cmp op_gt s_gt (nomark _) (p_a (hc_call (k := 1) c_law_draw (hr.mono (by decide)) (by exact takes_of rfl rfl rfl rfl) (by rfl) (ha_cons (h_var 0) (ha_cons h_int ha_nil)) (el_cons (el_cons el_nil)))) (p_a h_int)))
    (hs_cons (h_for (by exact passes_of rfl) (by rfl) (i_r1 (by rfl) T.b_range (h_var 3)) (g_name (i := 6) sc_law_meetings.nd (by rfl) (by first | exact Or.inl rfl | exact Or.inr rfl)) (hs_cons (h_own (i := 8) sc_law_meetings.nd (by rfl) (by first | exact Or.inl rfl | exact Or.inr rfl) (h_lrN (by rfl) (by rfl) T.b_list (by rfl) T.b_range (h_var 1)))
    (hs_cons (h_own (i := 9) sc_law_meetings.nd (by rfl) (by first | exact Or.inl rfl | exact Or.inr rfl) (h_lstN (ha_cons (hp_op2 op_sub s_sub (p_a h_int) (p_a h_int)) (ha_cons (hp_op2 op_sub s_sub (p_a h_int) (p_a h_int)) (ha_cons h_int (ha_cons (hp_op2 op_sub s_sub (p_a (hp_op2 o_add s_add (p_a (hp_op2 op_sub s_sub (p_a h_int) (p_a h_int))) (p_a (hp_op2 o_mul s_mul (p_a h_int) (p_a h_int))))) (p_a h_int)) ha_nil))))))
    (hs_cons (h_while (by exact passes_of rfl) (hpt_cmp (op_neD (hu64 hr)) s_neK (nomark _) (p_n 8) (p_a (h_lst ha_nil))) (hs_cons (h_popIf (t := 11) (i := 9) sc_law_meetings.nd (by rfl) (by first | exact Or.inl rfl | exact Or.inr rfl) (by rfl) (by first | exact Or.inl rfl | exact Or.inr (Or.inl rfl) | exact Or.inr (Or.inr rfl)) (hpt_cmp op_gt s_gt (nomark _) (p_a (hp_b1 call_len_seq s_len (by rfl) T.b_len bb_len (p_n 9))) (p_a h_int)) h_int h_int)
    (hs_cons (h_set (i := 12) sc_law_meetings.nd (by rfl) (by first | exact Or.inl rfl | exact Or.inr rfl) (h_if (hpt_cmp op_gt s_gt (nomark _) (p_a (hp_b1 call_len_seq s_len (by rfl) T.b_len bb_len (p_n 9))) (p_a h_int)) (hp_op2 o_mul s_mul (p_a h_int) (p_a (hp_op2 op_mod s_mod (p_a (hp_b1 call_len_seq s_len (by rfl) T.b_len bb_len (p_n 9))) (p_a h_int)))) h_int))
    (hs_cons (h_for (by exact passes_of rfl) (by rfl) (i_p (p_a (h_cut (p_a (h_lst (ha_cons (h_tup (ha_cons (h_var 11) (ha_cons (h_var 12) (ha_cons h_int ha_nil)))) (ha_cons (h_tup (ha_cons (hp_op2 o_add s_add (p_n 11) (p_a h_int)) (ha_cons (h_var 12) (ha_cons h_int ha_nil)))) (ha_cons (h_tup (ha_cons (h_var 11) (ha_cons (hp_op2 o_add s_add (p_n 12) (p_a h_int)) (ha_cons h_int ha_nil)))) ha_nil))))) ho_none (ho_some (hc_call (k := 2) c_law_pick (hr.mono (by decide)) (by exact takes_of rfl rfl rfl rfl) (by rfl) (ha_cons (h_var 0) (ha_cons (h_if (ht_val (h_var 5)) (h_lst (ha_cons h_int (ha_cons h_int (ha_cons h_int (ha_cons h_int (ha_cons h_int (ha_cons h_int ha_nil))))))) (h_lst (ha_cons h_int (ha_cons h_int (ha_cons h_int (ha_cons h_int (ha_cons h_int (ha_cons h_int ha_nil)))))))) ha_nil)) (el_cons (el_cons el_nil))))))) (g_tup (by rfl) (gs_cons (i := 13) sc_law_meetings.nd (by rfl) (by first | exact Or.inl rfl | exact Or.inr rfl) (gs_cons (i := 14) sc_law_meetings.nd (by rfl) (by first | exact Or.inl rfl | exact Or.inr rfl) (gs_cons (i := 15) sc_law_meetings.nd (by rfl) (by first | exact Or.inl rfl | exact Or.inr rfl) gs_nil)))) (hs_cons (h_ifS (hpt_cmp (op_neD (hu64 hr)) s_neK (nomark _) (p_n 8) (p_a (h_lst ha_nil))) (hs_cons (h_pop (t := 16) (i := 8) sc_law_meetings.nd (by rfl) (by first | exact Or.inl rfl | exact Or.inr rfl) (by rfl) (by first | exact Or.inl rfl | exact Or.inr (Or.inl rfl) | exact Or.inr (Or.inr rfl)) (h_if (ht_val (h_var 5)) h_int (hc_call (k := 1) c_law_draw (hr.mono (by decide)) (by exact takes_of rfl rfl rfl rfl) (by rfl) (ha_cons (h_var 0) (ha_cons (hp_b1 call_len_seq s_len (by rfl) T.b_len bb_len (p_n 8)) ha_nil)) (el_cons (el_cons el_nil)))))
    (hs_cons (h_appC (hp_ix o_ix s_ix (by intro _ _; rfl) (p_n 4) (p_n 16)) (h_tup (ha_cons (hp_b2 (call_min2 (by rfl)) s_min2 (by rfl) T.b_min bb_min (p_n 13) (p_a h_int)) (ha_cons (hp_b2 (call_min2 (by rfl)) s_min2 (by rfl) T.b_min bb_min (p_n 14) (p_a h_int)) (ha_cons (h_if (hpt_cmp op_gt s_gt (nomark _) (p_a (hc_call (k := 1) c_law_draw (hr.mono (by decide)) (by exact takes_of rfl rfl rfl rfl) (by rfl) (ha_cons (h_var 0) (ha_cons h_int ha_nil)) (el_cons (el_cons el_nil)))) (p_a h_int)) (h_var 15) (hc_call (k := 1) c_law_draw (hr.mono (by decide)) (by exact takes_of rfl rfl rfl rfl) (by rfl) (ha_cons (h_var 0) (ha_cons h_int ha_nil)) (el_cons (el_cons el_nil)))) ha_nil)))))
    hs_nil)) hs_nil)
    hs_nil))
    hs_nil))))
    hs_nil))))
    (hs_cons (h_set (i := 7) sc_law_meetings.nd (by rfl) (by first | exact Or.inl rfl | exact Or.inr rfl) (hp_t1 call_tuple_of s_tuple (by rfl) T.b_tuple bb_tuple (p_a (h_lc (E' := E0) (own := [(("_law_k" : Str), 10)]) (by rfl) sc_law_meetings.nd (i_r1 (by rfl) T.b_range (h_var 1)) (blk_ok (by kernel_rfl)) (fun _ _ _ _ _ => (g_name (i := 10) sc_law_meetings.nd (by rfl) (by first | exact Or.inl rfl | exact Or.inr rfl))) (fun _ _ _ _ _ => (ht_one (hpt_cmp (op_eqD (hu64 hr)) s_eq (nomark _) (p_a (hc_call (k := 1) c_law_draw (hr.mono (by decide)) takes0 (by rfl) (ha_cons (h_var 0) (ha_cons h_int ha_nil)) (el_cons (el_cons el_nil)))) (p_a h_int)))) (fun _ _ _ _ _ => (h_var 10)) (tg_n 10)))))
    (hs_cons (h_ret (h_tup (ha_cons (hp_op2 o_add s_add (p_a h_int) (p_a (hc_call (k := 1) c_law_draw (hr.mono (by decide)) (by exact takes_of rfl rfl rfl rfl) (by rfl) (ha_cons (h_var 0) (ha_cons h_int ha_nil)) (el_cons (el_cons el_nil))))) (ha_cons (hp_t1 call_tuple_of s_tuple (by rfl) T.b_tuple bb_tuple (p_a (h_lc (E' := E0) (own := [(("_law_row" : Str), 17)]) (by rfl) sc_law_meetings.nd (i_p (p_n 4)) (blk_ok (by kernel_rfl)) (fun _ _ _ _ _ => (g_name (i := 17) sc_law_meetings.nd (by rfl) (by first | exact Or.inl rfl | exact Or.inr rfl))) (fun _ _ _ _ _ => ht_none) (fun _ _ _ _ _ => (hp_t1 call_tuple_of s_tuple (by rfl) T.b_tuple bb_tuple (p_n 17))) (tg_n 17)))) (ha_cons (h_var 7) ha_nil)))))
    hs_nil)))))))
theorem sc_law_crowd : FnScope [("_law_town_here" : Str), ("_law_count" : Str), ("_law_long_of" : Str), ("_law_rows" : Str), ("_law_k" : Str), ("_law_barred_ones" : Str), ("_law_broad" : Str), ("_law_step" : Str), ("_law_row" : Str), ("_law_j" : Str)] [("_law_town_here" : Str), ("_law_count" : Str), ("_law_long_of" : Str)] (defScope t_law_crowd) := ⟨rfl, rfl, rfl, by decide +kernel, rfl, by decide +kernel, by decide +kernel⟩
theorem k_law_crowd {f : Addr} {fd : FuncData} {dvs : List V} {kws : List (Str × V)} (T : Txt K mg C) (c_law_draw : Cal P W K mg base C ("_law_draw" : Str) 1 2 f_law_draw) (c_law_pick : Cal P W K mg base C ("_law_pick" : Str) 2 2 f_law_pick) (c_law_meetings : Cal P W K mg base C ("_law_meetings" : Str) 3 3 f_law_meetings) (F : FnP K ("_law_crowd" : Str) t_law_crowd dvs kws f fd) : FnOk P W K mg base (L2.CX P W) 4 f fd [("_law_town_here" : Str), ("_law_count" : Str), ("_law_long_of" : Str)] (spF K C f_law_crowd 3) :=
  fn_okD (k := 3) F sc_law_crowd fun cdv A outer s H EX hr =>
    (hs_cons (h_ifS (hpt_cmp op_gt s_gt (nomark _) (p_a (hc_call (k := 1) c_law_draw (hr.mono (by decide)) (by exact takes_of rfl rfl rfl rfl) (by rfl) (ha_cons (h_var 0) (ha_cons h_int ha_nil)) (el_cons (el_cons el_nil)))) (p_a h_int)) (hs_cons (h_ret (hc_call (k := 3) c_law_meetings (hr.mono (by decide)) (by exact takes_of rfl rfl rfl rfl) (by rfl) (ha_cons (h_var 0) (ha_cons (h_var 1) (ha_cons (h_var 2) ha_nil))) (el_cons (el_cons (el_cons el_nil)))))
    hs_nil) hs_nil)
    (hs_cons (h_own (i := 3) sc_law_crowd.nd (by rfl) (by first | exact Or.inl rfl | exact Or.inr rfl) (h_lstN ha_nil))
    (hs_cons (h_put (hc_call (k := 2) c_law_pick (hr.mono (by decide)) (by exact takes_of rfl rfl rfl rfl) (by rfl) (ha_cons (h_var 0) (ha_cons (h_lst (ha_cons (h_tup (ha_cons h_int (ha_cons h_int ha_nil))) (ha_cons (h_tup (ha_cons h_int (ha_cons h_int ha_nil))) (ha_cons (h_tup (ha_cons h_int (ha_cons h_int ha_nil))) (ha_cons (h_tup (ha_cons h_int (ha_cons h_int ha_nil))) ha_nil))))) ha_nil)) (el_cons (el_cons el_nil))) (g_tup (by rfl) (gs_cons (i := 6) sc_law_crowd.nd (by rfl) (by first | exact Or.inl rfl | exact Or.inr rfl) (gs_cons (i := 7) sc_law_crowd.nd (by rfl) (by first | exact Or.inl rfl | exact Or.inr rfl) gs_nil))))
    (hs_cons (h_for (by exact passes_of rfl) (by rfl) (i_r1 (by rfl) T.b_range (h_var 1)) (g_name (i := 4) sc_law_crowd.nd (by rfl) (by first | exact Or.inl rfl | exact Or.inr rfl)) (hs_cons (h_own (i := 8) sc_law_crowd.nd (by rfl) (by first | exact Or.inl rfl | exact Or.inr rfl) (h_lstN ha_nil))
    (hs_cons (h_for (by exact passes_of rfl) (by rfl) (i_r1 (by rfl) T.b_range (hp_op2 o_add s_add (p_a h_int) (p_a (hc_call (k := 1) c_law_draw (hr.mono (by decide)) (by exact takes_of rfl rfl rfl rfl) (by rfl) (ha_cons (h_var 0) (ha_cons (h_var 2) ha_nil)) (el_cons (el_cons el_nil)))))) (g_name (i := 9) sc_law_crowd.nd (by rfl) (by first | exact Or.inl rfl | exact Or.inr rfl)) (hs_cons (h_app (i := 8) (by rfl) (by first | exact Or.inl rfl | exact Or.inr (Or.inl rfl) | exact Or.inr (Or.inr rfl)) (h_tup (ha_cons (hp_op2 o_add s_add (p_a (hp_op2 o_mul s_mul (p_n 7) (p_n 4))) (p_a (hc_call (k := 1) c_law_draw (hr.mono (by decide)) (by exact takes_of rfl rfl rfl rfl) (by rfl) (ha_cons (h_var 0) (ha_cons (h_var 6) ha_nil)) (el_cons (el_cons el_nil))))) (ha_cons (hc_call (k := 1) c_law_draw (hr.mono (by decide)) (by exact takes_of rfl rfl rfl rfl) (by rfl) (ha_cons (h_var 0) (ha_cons h_int ha_nil)) (el_cons (el_cons el_nil))) (ha_cons (hc_call (k := 1) c_law_draw (hr.mono (by decide)) (by exact takes_of rfl rfl rfl rfl) (by rfl) (ha_cons (h_var 0) (ha_cons h_int ha_nil)) (el_cons (el_cons el_nil))) ha_nil)))))
    hs_nil))
    (hs_cons (h_app (i := 3) (by rfl) (by first | exact Or.inl rfl | exact Or.inr (Or.inl rfl) | exact Or.inr (Or.inr rfl)) (hp_t1 call_tuple_of s_tuple (by rfl) T.b_tuple bb_tuple (p_n 8)))
    hs_nil))))
    (hs_cons (h_set (i := 5) sc_law_crowd.nd (by rfl) (by first | exact Or.inl rfl | exact Or.inr rfl) (hp_t1 call_tuple_of s_tuple (by rfl) T.b_tuple bb_tuple (p_a (h_lc (E' := E0) (own := [(("_law_k" : Str), 4)]) (by rfl) sc_law_crowd.nd (i_r1 (by rfl) T.b_range (h_var 1)) (blk_ok (by kernel_rfl)) (fun _ _ _ _ _ => (g_name (i := 4) sc_law_crowd.nd (by rfl) (by first | exact Or.inl rfl | exact Or.inr rfl))) (fun _ _ _ _ _ => (ht_one (hpt_cmp (op_eqD (hu64 hr)) s_eq (nomark _) (p_a (hc_call (k := 1) c_law_draw (hr.mono (by decide)) takes0 (by rfl) (ha_cons (h_var 0) (ha_cons h_int ha_nil)) (el_cons (el_cons el_nil)))) (p_a h_int)))) (fun _ _ _ _ _ => (h_var 4)) (tg_n 4)))))
    (hs_cons (h_ret (h_tup (ha_cons (hp_op2 o_add s_add (p_a h_int) (p_a (hp_op2 op_fdiv s_div (p_a (hc_call (k := 1) c_law_draw (hr.mono (by decide)) (by exact takes_of rfl rfl rfl rfl) (by rfl) (ha_cons (h_var 0) (ha_cons h_int ha_nil)) (el_cons (el_cons el_nil)))) (p_a h_int)))) (ha_cons (hp_t1 call_tuple_of s_tuple (by rfl) T.b_tuple bb_tuple (p_n 3)) (ha_cons (h_var 5) ha_nil)))))
    hs_nil))))))
theorem sc_law_stand : FnScope [("_law_crowd_here" : Str), ("_law_one" : Str), ("_law_beat" : Str), ("_law_behind_of" : Str), ("_law_row" : Str), ("_law_who" : Str), ("_law_since" : Str), ("_law_count" : Str)] [("_law_crowd_here" : Str), ("_law_one" : Str), ("_law_beat" : Str), ("_law_behind_of" : Str)] (defScope t_law_stand) := ⟨rfl, rfl, rfl, by decide +kernel, rfl, by decide +kernel, by decide +kernel⟩
theorem k_law_stand {f : Addr} {fd : FuncData} {dvs : List V} {kws : List (Str × V)} (T : Txt K mg C)  (F : FnP K ("_law_stand" : Str) t_law_stand dvs kws f fd) : FnOk P W K mg base (L2.CX P W) 1 f fd [("_law_crowd_here" : Str), ("_law_one" : Str), ("_law_beat" : Str), ("_law_behind_of" : Str)] (spF K C f_law_stand 4) :=
  fn_okD (k := 0) F sc_law_stand fun cdv A outer s H EX hr =>
    (hs_cons (h_set (i := 4) sc_law_stand.nd (by rfl) (by first | exact Or.inl rfl | exact Or.inr rfl) (hp_ix o_ix s_ix (by intro _ _; rfl) (p_a (hp_ix o_ix s_ix (by intro _ _; rfl) (p_n 0) (p_a h_int))) (p_n 1)))
    (hs_cons (h_for (by exact passes_of rfl) (by rfl) (i_p (p_n 3)) (g_tup (by rfl) (gs_cons (i := 5) sc_law_stand.nd (by rfl) (by first | exact Or.inl rfl | exact Or.inr rfl) (gs_cons (i := 6) sc_law_stand.nd (by rfl) (by first | exact Or.inl rfl | exact Or.inr rfl) (gs_cons (i := 7) sc_law_stand.nd (by rfl) (by first | exact Or.inl rfl | exact Or.inr rfl) gs_nil)))) (hs_cons (h_ifS ((hw_and (hpt_cmp (op_eqD (hu64 hr)) s_eq (nomark _) (p_n 5) (p_n 1)) (hw_and1 (hpt_cmp op_ge s_ge (nomark _) (p_n 2) (p_n 6))))).pt (hs_cons (h_ret (hp_ix o_ix s_ix (by intro _ _; rfl) (p_n 4) (p_a (hp_op2 op_mod s_mod (p_a (hp_op2 op_sub s_sub (p_n 2) (p_n 7))) (p_a (hp_b1 call_len_seq s_len (by rfl) T.b_len bb_len (p_n 4)))))))
    hs_nil) hs_nil)
    hs_nil))
    (hs_cons (h_ret (hp_ix o_ix s_ix (by intro _ _; rfl) (p_n 4) (p_a (hp_op2 op_mod s_mod (p_n 2) (p_a (hp_b1 call_len_seq s_len (by rfl) T.b_len bb_len (p_n 4)))))))
    hs_nil)))
theorem sc_law_hears : FnScope [("_law_crowd_here" : Str), ("_law_one" : Str), ("_law_two" : Str), ("_law_beat" : Str), ("_law_behind_of" : Str), ("_law_far" : Str), ("_law_ahead" : Str), ("_law_x" : Str), ("_law_y" : Str), ("_law_way" : Str), ("_law_px" : Str), ("_law_py" : Str), ("_law_turn_of" : Str)] [("_law_crowd_here" : Str), ("_law_one" : Str), ("_law_two" : Str), ("_law_beat" : Str), ("_law_behind_of" : Str)] (defScope t_law_hears) := ⟨rfl, rfl, rfl, by decide +kernel, rfl, by decide +kernel, by decide +kernel⟩
theorem k_law_hears {f : Addr} {fd : FuncData} {dvs : List V} {kws : List (Str × V)} (T : Txt K mg C) (c_law_stand : Cal P W K mg base C ("_law_stand" : Str) 1 4 f_law_stand) (F : FnP K ("_law_hears" : Str) t_law_hears dvs kws f fd) : FnOk P W K mg base (L2.CX P W) 2 f fd [("_law_crowd_here" : Str), ("_law_one" : Str), ("_law_two" : Str), ("_law_beat" : Str), ("_law_behind_of" : Str)] (spF K C f_law_hears 5) :=
  fn_okD (k := 1) F sc_law_hears fun cdv A outer s H EX hr =>
    (hs_cons (h_put (hc_call (k := 1) c_law_stand (hr.mono (by decide)) (by exact takes_of rfl rfl rfl rfl) (by rfl) (ha_cons (h_var 0) (ha_cons (h_var 1) (ha_cons (h_var 3) (ha_cons (h_var 4) ha_nil)))) (el_cons (el_cons (el_cons (el_cons el_nil))))) (g_tup (by rfl) (gs_cons (i := 7) sc_law_hears.nd (by rfl) (by first | exact Or.inl rfl | exact Or.inr rfl) (gs_cons (i := 8) sc_law_hears.nd (by rfl) (by first | exact Or.inl rfl | exact Or.inr rfl) (gs_cons (i := 9) sc_law_hears.nd (by rfl) (by first | exact Or.inl rfl | exact Or.inr rfl) gs_nil)))))
    (hs_cons (h_put (hc_call (k := 1) c_law_stand (hr.mono (by decide)) (by exact takes_of rfl rfl rfl rfl) (by rfl) (ha_cons (h_var 0) (ha_cons (h_var 2) (ha_cons (h_var 3) (ha_cons (h_var 4) ha_nil)))) (el_cons (el_cons (el_cons (el_cons el_nil))))) (g_tup (by rfl) (gs_cons (i := 10) sc_law_hears.nd (by rfl) (by first | exact Or.inl rfl | exact Or.inr rfl) (gs_cons (i := 11) sc_law_hears.nd (by rfl) (by first | exact Or.inl rfl | exact Or.inr rfl) (gs_cons (i := 12) sc_law_hears.nd (by rfl) (by first | exact Or.inl rfl | exact Or.inr rfl) gs_nil)))))
    (hs_cons (h_set (i := 5) sc_law_hears.nd (by rfl) (by first | exact Or.inl rfl | exact Or.inr rfl) (hp_op2 o_add s_add (p_a (hp_b2 (call_max2 (by rfl)) s_max2 (by rfl) T.b_max bb_max (p_a (hp_op2 op_sub s_sub (p_n 10) (p_n 7))) (p_a (hp_op2 op_sub s_sub (p_n 7) (p_n 10))))) (p_a (hp_b2 (call_max2 (by rfl)) s_max2 (by rfl) T.b_max bb_max (p_a (hp_op2 op_sub s_sub (p_n 11) (p_n 8))) (p_a (hp_op2 op_sub s_sub (p_n 8) (p_n 11)))))))
    (hs_cons (h_set (i := 6) sc_law_hears.nd (by rfl) (by first | exact Or.inl rfl | exact Or.inr rfl) (hp_ix o_ix s_ix (by intro _ _; rfl) (p_a (h_lst (ha_cons (hp_cmp op_ge s_ge (nomark _) (p_n 10) (p_n 7)) (ha_cons (hp_cmp op_ge s_ge (nomark _) (p_n 11) (p_n 8)) (ha_cons (hp_cmp op_le s_le (nomark _) (p_n 10) (p_n 7)) (ha_cons (hp_cmp op_le s_le (nomark _) (p_n 11) (p_n 8)) ha_nil)))))) (p_n 9)))
    (hs_cons (h_ret (h_and (hp_cmp (op_neD (hu64 hr)) s_neK (nomark _) (p_n 1) (p_n 2)) (h_and (hp_cmp op_le s_le (nomark _) (p_n 5) (p_a (hp_ix o_ix s_ix (by intro _ _; rfl) (p_n 0) (p_a h_int)))) (h_one (h_var 6)))))
    hs_nil)))))
theorem sc_law_ears : FnScope [("_law_crowd_here" : Str), ("_law_teller" : Str), ("_law_beat" : Str), ("_law_behind_of" : Str), ("_law_k" : Str)] [("_law_crowd_here" : Str), ("_law_teller" : Str), ("_law_beat" : Str), ("_law_behind_of" : Str)] (defScope t_law_ears) := ⟨rfl, rfl, rfl, by decide +kernel, rfl, by decide +kernel, by decide +kernel⟩
theorem k_law_ears {f : Addr} {fd : FuncData} {dvs : List V} {kws : List (Str × V)} (T : Txt K mg C) (c_law_hears : Cal P W K mg base C ("_law_hears" : Str) 2 5 f_law_hears) (F : FnP K ("_law_ears" : Str) t_law_ears dvs kws f fd) : FnOk P W K mg base (L2.CX P W) 3 f fd [("_law_crowd_here" : Str), ("_law_teller" : Str), ("_law_beat" : Str), ("_law_behind_of" : Str)] (spF K C f_law_ears 4) :=
  fn_okD (k := 2) F sc_law_ears fun cdv A outer s H EX hr =>
    (hs_cons (h_ret (h_lc (E' := E0) (own := [(("_law_k" : Str), 4)]) (by rfl) sc_law_ears.nd (i_r1 (by rfl) T.b_range (hp_b1 call_len_seq s_len (by rfl) T.b_len bb_len (p_a (hp_ix o_ix s_ix (by intro _ _; rfl) (p_n 0) (p_a h_int))))) (blk_ok (by kernel_rfl)) (fun _ _ _ _ _ => (g_name (i := 4) sc_law_ears.nd (by rfl) (by first | exact Or.inl rfl | exact Or.inr rfl))) (fun _ _ _ _ _ => (ht_one (ht_val (hc_call (k := 2) c_law_hears (hr.mono (by decide)) takes0 (by rfl) (ha_cons (h_var 0) (ha_cons (h_var 4) (ha_cons (h_var 1) (ha_cons (h_var 2) (ha_cons (h_var 3) ha_nil))))) (el_cons (el_cons (el_cons (el_cons (el_cons el_nil))))))))) (fun _ _ _ _ _ => (h_var 4)) (tg_n 4)))
    hs_nil)
theorem sc_law_let : FnScope [("_law_crowd_here" : Str), ("_law_teller" : Str), ("_law_beat" : Str), ("_law_behind_of" : Str), ("_law_there" : Str), ("_law_k" : Str)] [("_law_crowd_here" : Str), ("_law_teller" : Str), ("_law_beat" : Str), ("_law_behind_of" : Str)] (defScope t_law_let) := ⟨rfl, rfl, rfl, by decide +kernel, rfl, by decide +kernel, by decide +kernel⟩
theorem k_law_let {f : Addr} {fd : FuncData} {dvs : List V} {kws : List (Str × V)} (T : Txt K mg C) (c_law_ears : Cal P W K mg base C ("_law_ears" : Str) 3 4 f_law_ears) (F : FnP K ("_law_let" : Str) t_law_let dvs kws f fd) : FnOk P W K mg base (L2.CX P W) 4 f fd [("_law_crowd_here" : Str), ("_law_teller" : Str), ("_law_beat" : Str), ("_law_behind_of" : Str)] (spF K C f_law_let 4) :=
  fn_okD (k := 3) F sc_law_let fun cdv A outer s H EX hr =>
    (hs_cons (h_set (i := 4) sc_law_let.nd (by rfl) (by first | exact Or.inl rfl | exact Or.inr rfl) (hc_call (k := 3) c_law_ears (hr.mono (by decide)) (by exact takes_of rfl rfl rfl rfl) (by rfl) (ha_cons (h_var 0) (ha_cons (h_var 1) (ha_cons (h_var 2) (ha_cons (h_var 3) ha_nil)))) (el_cons (el_cons (el_cons (el_cons el_nil))))))
    (hs_cons (h_ifS ((hw_or (hpt_cmp (o_in (hu65 hr)) s_in (by rfl) (p_n 1) (p_a (hp_ix o_ix s_ix (by intro _ _; rfl) (p_n 0) (p_a h_int)))) (hw_or1 (hpt_cmp (op_neD (hu64 hr)) s_neK (nomark _) (p_a (h_lc (E' := E0) (own := [(("_law_k" : Str), 5)]) (by rfl) sc_law_let.nd (i_p (p_n 4)) (blk_ok (by kernel_rfl)) (fun _ _ _ _ _ => (g_name (i := 5) sc_law_let.nd (by rfl) (by first | exact Or.inl rfl | exact Or.inr rfl))) (fun _ _ _ _ _ => (ht_one (hpt_cmp (o_in (hu65 hr)) s_in (by rfl) (p_n 5) (p_a (hp_ix o_ix s_ix (by intro _ _; rfl) (p_n 0) (p_a h_int)))))) (fun _ _ _ _ _ => (h_var 5)) (tg_n 5))) (p_a (h_lst ha_nil)))))).pt (hs_cons (h_ret h_non)
    hs_nil) hs_nil)
    (hs_cons (h_ret (h_var 4))
    hs_nil)))
theorem sc_law_size : FnScope [("_law_crowds" : Str), ("_law_lengths" : Str), ("_law_one" : Str), ("_law_size_here" : Str), ("_law_k" : Str), ("_law_row" : Str)] [("_law_crowds" : Str)] (defScope t_law_size) := ⟨rfl, rfl, rfl, by decide +kernel, rfl, by decide +kernel, by decide +kernel⟩
theorem k_law_size {f : Addr} {fd : FuncData} {dvs : List V} {kws : List (Str × V)} (T : Txt K mg C)  (F : FnP K ("_law_size" : Str) t_law_size dvs kws f fd) : FnOk P W K mg base (L2.CX P W) 1 f fd [("_law_crowds" : Str)] (spF K C f_law_size 1) :=
  fn_okD (k := 0) F sc_law_size fun cdv A outer s H EX hr =>
    (hs_cons (h_set (i := 1) sc_law_size.nd (by rfl) (by first | exact Or.inl rfl | exact Or.inr rfl) (h_lst ha_nil))
    (hs_cons (h_for (by exact passes_of rfl) (by rfl) (i_p (p_n 0)) (g_name (i := 2) sc_law_size.nd (by rfl) (by first | exact Or.inl rfl | exact Or.inr rfl)) (hs_cons (h_set (i := 1) sc_law_size.nd (by rfl) (by first | exact Or.inl rfl | exact Or.inr rfl) (hp_op2 o_add s_add (p_n 1) (p_a (h_lc (E' := E0) (own := [(("_law_row" : Str), 5)]) (by rfl) sc_law_size.nd (i_p (p_a (hp_ix o_ix s_ix (by intro _ _; rfl) (p_n 2) (p_a h_int)))) (blk_ok (by kernel_rfl)) (fun _ _ _ _ _ => (g_name (i := 5) sc_law_size.nd (by rfl) (by first | exact Or.inl rfl | exact Or.inr rfl))) (fun _ _ _ _ _ => ht_none) (fun _ _ _ _ _ => (hp_b1 call_len_seq s_len (by rfl) T.b_len bb_len (p_n 5))) (tg_n 5)))))
    hs_nil))
    (hs_cons (h_set (i := 3) sc_law_size.nd (by rfl) (by first | exact Or.inl rfl | exact Or.inr rfl) h_int)
    (hs_cons (h_while (by exact passes_of rfl) (hpt_cmp (op_neD (hu64 hr)) s_neK (nomark _) (p_a (h_lc (E' := E0) (own := [(("_law_k" : Str), 4)]) (by rfl) sc_law_size.nd (i_p (p_n 1)) (blk_ok (by kernel_rfl)) (fun _ _ _ _ _ => (g_name (i := 4) sc_law_size.nd (by rfl) (by first | exact Or.inl rfl | exact Or.inr rfl))) (fun _ _ _ _ _ => (ht_one (hpt_cmp (op_neD (hu64 hr)) s_neK (nomark _) (p_a (hp_op2 op_mod s_mod (p_n 3) (p_n 4))) (p_a h_int)))) (fun _ _ _ _ _ => (h_var 4)) (tg_n 4))) (p_a (h_lst ha_nil))) (hs_cons (h_set (i := 3) sc_law_size.nd (by rfl) (by first | exact Or.inl rfl | exact Or.inr rfl) (hp_op2 o_add s_add (p_n 3) (p_a h_int)))
    hs_nil))
    (hs_cons (h_ret (h_var 3))
    hs_nil)))))
theorem sc_law_some : FnScope [("_law_town_here" : Str), ("_law_count" : Str), ("_law_much" : Str), ("_law_k" : Str)] [("_law_town_here" : Str), ("_law_count" : Str), ("_law_much" : Str)] (defScope t_law_some) := ⟨rfl, rfl, rfl, by decide +kernel, rfl, by decide +kernel, by decide +kernel⟩
theorem k_law_some {f : Addr} {fd : FuncData} {dvs : List V} {kws : List (Str × V)} (T : Txt K mg C) (c_law_draw : Cal P W K mg base C ("_law_draw" : Str) 1 2 f_law_draw) (F : FnP K ("_law_some" : Str) t_law_some dvs kws f fd) : FnOk P W K mg base (L2.CX P W) 2 f fd [("_law_town_here" : Str), ("_law_count" : Str), ("_law_much" : Str)] (spF K C f_law_some 3) :=
  fn_okD (k := 1) F sc_law_some fun cdv A outer s H EX hr =>
    (hs_cons (h_ret (hp_t1 call_tuple_of s_tuple (by rfl) T.b_tuple bb_tuple (p_a (h_lc (E' := E0) (own := [(("_law_k" : Str), 3)]) (by rfl) sc_law_some.nd (i_r1 (by rfl) T.b_range (h_var 1)) (blk_ok (by kernel_rfl)) (fun _ _ _ _ _ => (g_name (i := 3) sc_law_some.nd (by rfl) (by first | exact Or.inl rfl | exact Or.inr rfl))) (fun _ _ _ _ _ => (ht_one (hpt_cmp (op_eqD (hu64 hr)) s_eq (nomark _) (p_a (hc_call (k := 1) c_law_draw (hr.mono (by decide)) takes0 (by rfl) (ha_cons (h_var 0) (ha_cons (h_var 2) ha_nil)) (el_cons (el_cons el_nil)))) (p_a h_int)))) (fun _ _ _ _ _ => (h_var 3)) (tg_n 3)))))
    hs_nil)
theorem sc_law_firsts : FnScope [("_law_crowd_here" : Str), ("_law_owners_here" : Str), ("_law_start" : Str), ("_law_behind_of" : Str), ("_law_beats_of" : Str), ("_law_since" : Str), ("_law_k" : Str), ("_law_beat" : Str), ("_law_teller" : Str), ("_law_there" : Str), ("_law_one" : Str)] [("_law_crowd_here" : Str), ("_law_owners_here" : Str), ("_law_start" : Str), ("_law_behind_of" : Str), ("_law_beats_of" : Str)] (defScope t_law_firsts) := ⟨rfl, rfl, rfl, by decide +kernel, rfl, by decide +kernel, by decide +kernel⟩
theorem k_law_firsts {f : Addr} {fd : FuncData} {dvs : List V} {kws : List (Str × V)} (T : Txt K mg C) (c_law_let : Cal P W K mg base C ("_law_let" : Str) 4 4 f_law_let) (F : FnP K ("_law_firsts" : Str) t_law_firsts dvs kws f fd) : FnOk P W K mg base (L2.CX P W) 5 f fd [("_law_crowd_here" : Str), ("_law_owners_here" : Str), ("_law_start" : Str), ("_law_behind_of" : Str), ("_law_beats_of" : Str)] (spF K C f_law_firsts 5) :=
  fn_okD (k := 4) F sc_law_firsts fun cdv A outer s H EX hr =>
    (hs_cons (h_own (i := 5) sc_law_firsts.nd (by rfl) (by first | exact Or.inl rfl | exact Or.inr rfl) h_dI0)
    (hs_cons (h_for (by exact passes_of rfl) (by rfl) (i_p (p_n 1)) (g_name (i := 6) sc_law_firsts.nd (by rfl) (by first | exact Or.inl rfl | exact Or.inr rfl)) (hs_cons (h_dput (i := 5) (hu1 hr) (by rfl) (by first | exact Or.inl rfl | exact Or.inr (Or.inl rfl) | exact Or.inr (Or.inr rfl)) (h_var 2) (h_var 6) (by rfl))
    hs_nil))
    (hs_cons (h_for (by exact passes_of rfl) (by rfl) (i_r2 (by rfl) T.b_range (h_var 2) (hp_op2 o_add s_add (p_n 2) (p_n 4))) (g_name (i := 7) sc_law_firsts.nd (by rfl) (by first | exact Or.inl rfl | exact Or.inr rfl)) (hs_cons (h_for (by exact passes_of rfl) (by rfl) (i_p (p_a (h_lkE (E' := E0) 5 (h_lc (E' := E0) (own := [(("_law_k" : Str), 6)]) (by rfl) sc_law_firsts.nd (i_p (p_n 5)) (blk_ok (by kernel_rfl)) (fun _ _ _ _ _ => (g_name (i := 6) sc_law_firsts.nd (by rfl) (by first | exact Or.inl rfl | exact Or.inr rfl))) (fun _ _ _ _ _ => (ht_one (hpt_cmp op_le s_le (nomark _) (p_a (h_ix2 (hu1 hr) (by intro _ _; rfl) (p_n 5) (p_n 6))) (p_n 7)))) (fun _ _ _ _ _ => (h_var 6)) (tg_n 6))))) (g_name (i := 8) sc_law_firsts.nd (by rfl) (by first | exact Or.inl rfl | exact Or.inr rfl)) (hs_cons (h_set (i := 9) sc_law_firsts.nd (by rfl) (by first | exact Or.inl rfl | exact Or.inr rfl) (hc_call (k := 4) c_law_let (hr.mono (by decide)) (by exact takes_of rfl rfl rfl rfl) (by rfl) (ha_cons (h_var 0) (ha_cons (h_var 8) (ha_cons (h_var 7) (ha_cons (h_var 3) ha_nil)))) (el_cons (el_cons (el_cons (el_cons el_nil))))))
    (hs_cons (h_for (by exact passes_of rfl) (by rfl) (i_p (p_a (h_if (hpt_cmp o_is s_is (nomark _) (p_n 9) (p_a h_non)) (h_lst ha_nil) (h_var 9)))) (g_name (i := 10) sc_law_firsts.nd (by rfl) (by first | exact Or.inl rfl | exact Or.inr rfl)) (hs_cons (h_ifS (ht_nin2 (hu65 hr) (by rfl) (p_n 10) (p_n 5)) (hs_cons (h_dput (i := 5) (hu1 hr) (by rfl) (by first | exact Or.inl rfl | exact Or.inr (Or.inl rfl) | exact Or.inr (Or.inr rfl)) (hp_op2 o_add s_add (p_n 7) (p_a h_int)) (h_var 10) (by rfl))
    hs_nil) hs_nil)
    hs_nil))
    hs_nil)))
    hs_nil))
    (h_fzD 5 (hs_cons (h_ret (h_var 5))
    hs_nil)))))
theorem sc_law_owners : FnScope [("_law_town_here" : Str), ("_law_count" : Str), ("_law_one" : Str)] [("_law_town_here" : Str), ("_law_count" : Str)] (defScope t_law_owners) := ⟨rfl, rfl, rfl, by decide +kernel, rfl, by decide +kernel, by decide +kernel⟩
theorem k_law_owners {f : Addr} {fd : FuncData} {dvs : List V} {kws : List (Str × V)} (T : Txt K mg C) (c_law_draw : Cal P W K mg base C ("_law_draw" : Str) 1 2 f_law_draw) (c_law_pick : Cal P W K mg base C ("_law_pick" : Str) 2 2 f_law_pick) (c_law_some : Cal P W K mg base C ("_law_some" : Str) 2 3 f_law_some) (F : FnP K ("_law_owners" : Str) t_law_owners dvs kws f fd) : FnOk P W K mg base (L2.CX P W) 3 f fd [("_law_town_here" : Str), ("_law_count" : Str)] (spF K C f_law_owners 2) :=
  fn_okD (k := 2) F sc_law_owners fun cdv A outer s H EX hr =>
    (hs_cons (h_set (i := 2) sc_law_owners.nd (by rfl) (by first | exact Or.inl rfl | exact Or.inr rfl) (h_tup (ha_cons (hc_call (k := 1) c_law_draw (hr.mono (by decide)) (by exact takes_of rfl rfl rfl rfl) (by rfl) (ha_cons (h_var 0) (ha_cons (h_var 1) ha_nil)) (el_cons (el_cons el_nil))) ha_nil)))
    (hs_cons (h_ret (hc_call (k := 2) c_law_pick (hr.mono (by decide)) (by exact takes_of rfl rfl rfl rfl) (by rfl) (ha_cons (h_var 0) (ha_cons (h_lst (ha_cons (h_var 2) (ha_cons (h_var 2) (ha_cons (h_var 2) (ha_cons (hc_call (k := 2) c_law_some (hr.mono (by decide)) (by exact takes_of rfl rfl rfl rfl) (by rfl) (ha_cons (h_var 0) (ha_cons (h_var 1) (ha_cons h_int ha_nil))) (el_cons (el_cons (el_cons el_nil)))) (ha_cons (hc_call (k := 2) c_law_some (hr.mono (by decide)) (by exact takes_of rfl rfl rfl rfl) (by rfl) (ha_cons (h_var 0) (ha_cons (h_var 1) (ha_cons h_int ha_nil))) (el_cons (el_cons (el_cons el_nil)))) ha_nil)))))) ha_nil)) (el_cons (el_cons el_nil))))
    hs_nil))
theorem sc_law_home : FnScope [("_law_town_here" : Str), ("_law_count" : Str), ("_law_owners_here" : Str), ("_law_others" : Str), ("_law_k" : Str)] [("_law_town_here" : Str), ("_law_count" : Str), ("_law_owners_here" : Str)] (defScope t_law_home) := ⟨rfl, rfl, rfl, by decide +kernel, rfl, by decide +kernel, by decide +kernel⟩
theorem k_law_home {f : Addr} {fd : FuncData} {dvs : List V} {kws : List (Str × V)} (T : Txt K mg C) (c_law_draw : Cal P W K mg base C ("_law_draw" : Str) 1 2 f_law_draw) (c_law_pick : Cal P W K mg base C ("_law_pick" : Str) 2 2 f_law_pick) (F : FnP K ("_law_home" : Str) t_law_home dvs kws f fd) : FnOk P W K mg base (L2.CX P W) 3 f fd [("_law_town_here" : Str), ("_law_count" : Str), ("_law_owners_here" : Str)] (spF K C f_law_home 3) :=
  fn_okD (k := 2) F sc_law_home fun cdv A outer s H EX hr =>
    (hs_cons (h_ownLc (E' := E0) (i := 3) (own := [(("_law_k" : Str), 4)]) (by rfl) sc_law_home.nd (by rfl) (by rfl) (by kernel_rfl) (i_r1 (by rfl) T.b_range (h_var 1)) (blk_ok (by kernel_rfl)) (fun _ _ _ _ _ => (g_name (i := 4) sc_law_home.nd (by rfl) (by first | exact Or.inl rfl | exact Or.inr rfl))) (fun _ _ _ _ _ => (ht_one (hpt_cmp (o_notin (hu65 hr)) s_notin (by rfl) (p_n 4) (p_n 2)))) (fun _ _ _ _ _ => (h_var 4)) (tg_n 4))
    (h_fzS 3 (hs_cons (h_ret (hc_call (k := 2) c_law_pick (hr.mono (by decide)) (by exact takes_of rfl rfl rfl rfl) (by rfl) (ha_cons (h_var 0) (ha_cons (hp_op2 o_add s_add (p_a (hp_op2 o_add s_add (p_a (hp_op2 o_add s_add (p_n 3) (p_n 3))) (p_n 3))) (p_a (h_lst (ha_cons (hc_call (k := 1) c_law_draw (hr.mono (by decide)) (by exact takes_of rfl rfl rfl rfl) (by rfl) (ha_cons (h_var 0) (ha_cons (h_var 1) ha_nil)) (el_cons (el_cons el_nil))) ha_nil)))) ha_nil)) (el_cons (el_cons el_nil))))
    hs_nil)))
theorem sc_law_told : FnScope [("_law_sort_of" : Str), ("_law_crowd_here" : Str), ("_law_owners_here" : Str), ("_law_goal_of" : Str), ("_law_told_here" : Str), ("_law_caught" : Str), ("e" : Str)] [("_law_sort_of" : Str), ("_law_crowd_here" : Str), ("_law_owners_here" : Str), ("_law_goal_of" : Str)] (defScope t_law_told) := ⟨rfl, rfl, rfl, by decide +kernel, rfl, by decide +kernel, by decide +kernel⟩
theorem k_law_told {f : Addr} {fd : FuncData} {dvs : List V} {kws : List (Str × V)} (T : Txt K mg C) (c_best_begin : Cal P W K mg base C ("best_begin" : Str) 6 3 f_best_begin) (c_keepers : Cal P W K mg base C ("keepers" : Str) 6 3 f_keepers) (c_law_refusal : Cal P W K mg base C ("_law_refusal" : Str) 1 1 f_law_refusal) (F : FnP K ("_law_told" : Str) t_law_told dvs kws f fd) : FnOk P W K mg base (L2.CX P W) 7 f fd [("_law_sort_of" : Str), ("_law_crowd_here" : Str), ("_law_owners_here" : Str), ("_law_goal_of" : Str)] (spF K C f_law_told 4) :=
  fn_okD (k := 6) F sc_law_told fun cdv A outer s H EX hr =>
    (hs_cons (h_set (i := 4) sc_law_told.nd (by rfl) (by first | exact Or.inl rfl | exact Or.inr rfl) h_non)
    (hs_cons (h_set (i := 5) sc_law_told.nd (by rfl) (by first | exact Or.inl rfl | exact Or.inr rfl) h_non)
    (hs_cons (h_try (i := 6) (j := 5) (by rfl) (by rfl) sc_law_told.nd (by rfl) (by rfl) (by rfl) (by rfl) (by rfl) (by decide) ⟨by rfl, by decide, Or.inl T.h_HushError.1⟩ T.h_HushError.2 (by decide) (by decide) (by rfl) (fun W pn xe tk hp => (hs_cons (h_set (i := 4) sc_law_told.nd (by rfl) (by first | exact Or.inl rfl | exact Or.inr rfl) (h_if (hpt_cmp (op_eqD (hu64 hr)) s_eq (nomark _) (p_n 0) (p_a h_int)) (hc_call (k := 6) c_best_begin (hr.mono (by decide)) tk (by rfl) (ha_cons (h_var 1) (ha_cons (h_var 2) (ha_cons (h_var 3) ha_nil))) (el_cons (el_cons (el_cons el_nil)))) (hc_call (k := 6) c_keepers (hr.mono (by decide)) tk (by rfl) (ha_cons (h_var 1) (ha_cons (h_var 2) (ha_cons (h_var 3) ha_nil))) (el_cons (el_cons (el_cons el_nil))))))
    hs_nil)))
    (hs_cons (h_ret (h_if (hpt_cmp o_is s_is (nomark _) (p_n 5) (p_a h_non)) (h_var 4) (hc_call (k := 1) c_law_refusal (hr.mono (by decide)) (by exact takes_of rfl rfl rfl rfl) (by rfl) (ha_cons (h_var 5) ha_nil) (el_cons el_nil))))
    hs_nil))))
theorem sc_law_dumb : FnScope [("_law_crowd_here" : Str), ("_law_owners_here" : Str), ("_law_dumb_one" : Str), ("_law_size_here" : Str), ("_law_found" : Str), ("_law_at" : Str), ("_law_beat" : Str), ("_law_there" : Str), ("_law_k" : Str)] [("_law_crowd_here" : Str), ("_law_owners_here" : Str), ("_law_dumb_one" : Str), ("_law_size_here" : Str)] (defScope t_law_dumb) := ⟨rfl, rfl, rfl, by decide +kernel, rfl, by decide +kernel, by decide +kernel⟩
theorem k_law_dumb {f : Addr} {fd : FuncData} {dvs : List V} {kws : List (Str × V)} (T : Txt K mg C) (c_law_let : Cal P W K mg base C ("_law_let" : Str) 4 4 f_law_let) (F : FnP K ("_law_dumb" : Str) t_law_dumb dvs kws f fd) : FnOk P W K mg base (L2.CX P W) 5 f fd [("_law_crowd_here" : Str), ("_law_owners_here" : Str), ("_law_dumb_one" : Str), ("_law_size_here" : Str)] (spF K C f_law_dumb 4) :=
  fn_okD (k := 4) F sc_law_dumb fun cdv A outer s H EX hr =>
    (hs_cons (h_set (i := 4) sc_law_dumb.nd (by rfl) (by first | exact Or.inl rfl | exact Or.inr rfl) (hp_t1 call_list_of s_listK (by rfl) T.b_list bb_list (p_n 1)))
    (hs_cons (h_set (i := 5) sc_law_dumb.nd (by rfl) (by first | exact Or.inl rfl | exact Or.inr rfl) h_int)
    (hs_cons (h_while (by exact passes_of rfl) (hpt_cmp op_lt s_lt (nomark _) (p_n 5) (p_a (hp_b1 call_len_seq s_len (by rfl) T.b_len bb_len (p_n 4)))) (hs_cons (h_for (by exact passes_of rfl) (by rfl) (i_r1 (by rfl) T.b_range (h_if (hpt_cmp (op_neD (hu64 hr)) s_neK (nomark _) (p_a (hp_ix o_ix s_ix (by intro _ _; rfl) (p_n 4) (p_n 5))) (p_n 2)) (h_var 3) h_int)) (g_name (i := 6) sc_law_dumb.nd (by rfl) (by first | exact Or.inl rfl | exact Or.inr rfl)) (hs_cons (h_set (i := 7) sc_law_dumb.nd (by rfl) (by first | exact Or.inl rfl | exact Or.inr rfl) (hc_call (k := 4) c_law_let (hr.mono (by decide)) (by exact takes_of rfl rfl rfl rfl) (by rfl) (ha_cons (h_var 0) (ha_cons (hp_ix o_ix s_ix (by intro _ _; rfl) (p_n 4) (p_n 5)) (ha_cons (h_var 6) (ha_cons (h_tup ha_nil) ha_nil)))) (el_cons (el_cons (el_cons (el_cons el_nil))))))
    (hs_cons (h_set (i := 4) sc_law_dumb.nd (by rfl) (by first | exact Or.inl rfl | exact Or.inr rfl) (hp_op2 o_add s_add (p_n 4) (p_a (h_lc (E' := E0) (own := [(("_law_k" : Str), 8)]) (by rfl) sc_law_dumb.nd (i_p (p_a (h_if (hpt_cmp o_is s_is (nomark _) (p_n 7) (p_a h_non)) (h_lst ha_nil) (h_var 7)))) (blk_ok (by kernel_rfl)) (fun _ _ _ _ _ => (g_name (i := 8) sc_law_dumb.nd (by rfl) (by first | exact Or.inl rfl | exact Or.inr rfl))) (fun _ _ _ _ _ => (ht_one (hpt_cmp (o_notin (hu65 hr)) s_notin (by rfl) (p_n 8) (p_n 4)))) (fun _ _ _ _ _ => (h_var 8)) (tg_n 8)))))
    hs_nil)))
    (hs_cons (h_set (i := 5) sc_law_dumb.nd (by rfl) (by first | exact Or.inl rfl | exact Or.inr rfl) (hp_op2 o_add s_add (p_n 5) (p_a h_int)))
    hs_nil)))
    (hs_cons (h_ret (h_var 4))
    hs_nil))))
theorem sc_law : FnScope [("_law_script" : Str), ("_law_town_here" : Str), ("_law_count" : Str), ("_law_crowd_here" : Str), ("_law_owners_here" : Str), ("_law_size_here" : Str), ("_law_goal_of" : Str), ("_law_best" : Str), ("_law_start" : Str), ("_law_due" : Str), ("_law_k" : Str), ("_law_told_here" : Str), ("_law_since" : Str)] [("_law_script" : Str)] (defScope t_law) := ⟨rfl, rfl, rfl, by decide +kernel, rfl, by decide +kernel, by decide +kernel⟩
theorem k_law {f : Addr} {fd : FuncData} {dvs : List V} {kws : List (Str × V)} (T : Txt K mg C) (c_law_town : Cal P W K mg base C ("_law_town" : Str) 1 1 f_law_town) (c_law_draw : Cal P W K mg base C ("_law_draw" : Str) 1 2 f_law_draw) (c_law_crowd : Cal P W K mg base C ("_law_crowd" : Str) 4 3 f_law_crowd) (c_law_size : Cal P W K mg base C ("_law_size" : Str) 1 1 f_law_size) (c_law_firsts : Cal P W K mg base C ("_law_firsts" : Str) 5 5 f_law_firsts) (c_law_owners : Cal P W K mg base C ("_law_owners" : Str) 3 2 f_law_owners) (c_law_home : Cal P W K mg base C ("_law_home" : Str) 3 3 f_law_home) (c_law_told : Cal P W K mg base C ("_law_told" : Str) 7 4 f_law_told) (c_law_dumb : Cal P W K mg base C ("_law_dumb" : Str) 5 4 f_law_dumb) (F : FnP K ("law" : Str) t_law dvs kws f fd) : FnOk P W K mg base (L2.CX P W) 8 f fd [("_law_script" : Str)] (spF K C f_law 1) :=
  fn_okD (k := 7) F sc_law fun cdv A outer s H EX hr =>
    (hs_cons (h_set (i := 1) sc_law.nd (by rfl) (by first | exact Or.inl rfl | exact Or.inr rfl) (hc_call (k := 1) c_law_town (hr.mono (by decide)) (by exact takes_of rfl rfl rfl rfl) (by rfl) (ha_cons (h_var 0) ha_nil) (el_cons el_nil)))
    (hs_cons (h_set (i := 2) sc_law.nd (by rfl) (by first | exact Or.inl rfl | exact Or.inr rfl) (hp_op2 o_add s_add (p_a h_int) (p_a (hc_call (k := 1) c_law_draw (hr.mono (by decide)) (by exact takes_of rfl rfl rfl rfl) (by rfl) (ha_cons (h_var 1) (ha_cons h_int ha_nil)) (el_cons (el_cons el_nil))))))
    (hs_cons (h_set (i := 3) sc_law.nd (by rfl) (by first | exact Or.inl rfl | exact Or.inr rfl) (hc_call (k := 4) c_law_crowd (hr.mono (by decide)) (by exact takes_of rfl rfl rfl rfl) (by rfl) (ha_cons (h_var 1) (ha_cons (h_var 2) (ha_cons h_int ha_nil))) (el_cons (el_cons (el_cons el_nil)))))
    (hs_cons (h_set (i := 4) sc_law.nd (by rfl) (by first | exact Or.inl rfl | exact Or.inr rfl) (hc_call (k := 3) c_law_owners (hr.mono (by decide)) (by exact takes_of rfl rfl rfl rfl) (by rfl) (ha_cons (h_var 1) (ha_cons (h_var 2) ha_nil)) (el_cons (el_cons el_nil))))
    (hs_cons (h_set (i := 5) sc_law.nd (by rfl) (by first | exact Or.inl rfl | exact Or.inr rfl) (hc_call (k := 1) c_law_size (hr.mono (by decide)) (by exact takes_of rfl rfl rfl rfl) (by rfl) (ha_cons (h_lst (ha_cons (h_var 3) ha_nil)) ha_nil) (el_cons el_nil)))
    (hs_cons (h_set (i := 6) sc_law.nd (by rfl) (by first | exact Or.inl rfl | exact Or.inr rfl) (hc_call (k := 3) c_law_home (hr.mono (by decide)) (by exact takes_of rfl rfl rfl rfl) (by rfl) (ha_cons (h_var 1) (ha_cons (h_var 2) (ha_cons (h_var 4) ha_nil))) (el_cons (el_cons (el_cons el_nil)))))
    (hs_cons (h_set (i := 7) sc_law.nd (by rfl) (by first | exact Or.inl rfl | exact Or.inr rfl) h_non)
    (hs_cons (h_for (by exact passes_of rfl) (by rfl) (i_r1 (by rfl) T.b_range (h_var 5)) (g_name (i := 8) sc_law.nd (by rfl) (by first | exact Or.inl rfl | exact Or.inr rfl)) (hs_cons (h_set (i := 12) sc_law.nd (by rfl) (by first | exact Or.inl rfl | exact Or.inr rfl) (h_get1 (hu1 hr) (p_a (hc_call (k := 5) c_law_firsts (hr.mono (by decide)) (by exact takes_of rfl rfl rfl rfl) (by rfl) (ha_cons (h_var 3) (ha_cons (h_var 4) (ha_cons (h_var 8) (ha_cons (h_tup ha_nil) (ha_cons (hp_op2 o_mul s_mul (p_n 5) (p_a (hp_op2 o_add s_add (p_n 2) (p_a h_int)))) ha_nil))))) (el_cons (el_cons (el_cons (el_cons (el_cons el_nil))))))) (h_var 6) ⟨by rfl, by rfl, by rfl, by rfl⟩))
    (hs_cons (h_ifS ((hw_and (hpt_cmp o_isnot s_isnot (nomark _) (p_n 12) (p_a h_non)) (hw_and1 ((hw_or (hpt_cmp o_is s_is (nomark _) (p_n 7) (p_a h_non)) (hw_or1 (hpt_cmp op_lt s_lt (nomark _) (p_a (hp_op2 op_sub s_sub (p_n 12) (p_n 8))) (p_a (hp_ix o_ix s_ix (by intro _ _; rfl) (p_n 7) (p_a h_int))))))).pt))).pt (hs_cons (h_set (i := 7) sc_law.nd (by rfl) (by first | exact Or.inl rfl | exact Or.inr rfl) (h_tup (ha_cons (h_var 8) (ha_cons (hp_op2 op_sub s_sub (p_n 12) (p_n 8)) ha_nil))))
    hs_nil) hs_nil)
    hs_nil)))
    (hs_cons (h_ifS (hpt_cmp (op_neD (hu64 hr)) s_neK (nomark _) (p_a (hc_call (k := 7) c_law_told (hr.mono (by decide)) (by exact takes_of rfl rfl rfl rfl) (by rfl) (ha_cons h_int (ha_cons (h_var 3) (ha_cons (h_var 4) (ha_cons (h_var 6) ha_nil)))) (el_cons (el_cons (el_cons (el_cons el_nil)))))) (p_a (h_if (hpt_cmp o_is s_is (nomark _) (p_n 7) (p_a h_non)) h_str (h_var 7)))) (hs_cons (h_ret h_bl)
    hs_nil) hs_nil)
    (hs_cons (h_own (i := 9) sc_law.nd (by rfl) (by first | exact Or.inl rfl | exact Or.inr rfl) (h_lstN ha_nil))
    (hs_cons (h_for (by exact passes_of rfl) (by rfl) (i_r1 (by rfl) T.b_range (h_var 2)) (g_name (i := 10) sc_law.nd (by rfl) (by first | exact Or.inl rfl | exact Or.inr rfl)) (hs_cons (h_ifS ((hw_and (hpt_cmp (o_notin (hu65 hr)) s_notin (by rfl) (p_n 10) (p_n 4)) (hw_and (hpt_cmp (op_neD (hu64 hr)) s_neK (nomark _) (p_n 10) (p_n 6)) (hw_and1 (hpt_cmp (o_notin (hu65 hr)) s_notin (by rfl) (p_n 6) (p_a (hc_call (k := 5) c_law_dumb (hr.mono (by decide)) (by exact takes_of rfl rfl rfl rfl) (by rfl) (ha_cons (h_var 3) (ha_cons (h_var 4) (ha_cons (h_var 10) (ha_cons (h_var 5) ha_nil)))) (el_cons (el_cons (el_cons (el_cons el_nil))))))))))).pt (hs_cons (h_app (i := 9) (by rfl) (by first | exact Or.inl rfl | exact Or.inr (Or.inl rfl) | exact Or.inr (Or.inr rfl)) (h_var 10))
    hs_nil) hs_nil)
    hs_nil))
    (hs_cons (h_set (i := 11) sc_law.nd (by rfl) (by first | exact Or.inl rfl | exact Or.inr rfl) (hc_call (k := 7) c_law_told (hr.mono (by decide)) (by exact takes_of rfl rfl rfl rfl) (by rfl) (ha_cons h_int (ha_cons (h_var 3) (ha_cons (h_var 4) (ha_cons (h_var 6) ha_nil)))) (el_cons (el_cons (el_cons (el_cons el_nil))))))
    (h_fzS 9 (hs_cons (h_ifS (hpt_cmp (op_neD (hu64 hr)) s_neK (nomark _) (p_n 11) (p_a (h_if (hpt_cmp o_is s_is (nomark _) (p_n 7) (p_a h_non)) h_str (h_var 9)))) (hs_cons (h_ret h_bl)
    hs_nil) hs_nil)
    (hs_cons (h_ret (h_or (hp_cmp o_is s_is (nomark _) (p_n 7) (p_a h_non)) (h_or (hp_cmp (o_notin (hu65 hr)) s_notin (by rfl) (p_n 6) (p_n 4)) (h_one (h_and (hp_cmp (op_eqD (hu64 hr)) s_eq (nomark _) (p_n 7) (p_a (h_tup (ha_cons h_int (ha_cons h_int ha_nil))))) (h_one (hp_cmp (op_eqD (hu64 hr)) s_eq (nomark _) (p_n 9) (p_a (h_lst ha_nil)))))))))
    hs_nil)))))))))))))))
end
/-! ### the head -/
def D_is_whole : He.DefD := ⟨(("is_whole" : Str), none), ("is_whole" : Str), ("is_whole" : Str), defArgs t_is_whole, defBody t_is_whole, defScope t_is_whole, [], []⟩
def D_is_stand : He.DefD := ⟨(("is_stand" : Str), none), ("is_stand" : Str), ("is_stand" : Str), defArgs t_is_stand, defBody t_is_stand, defScope t_is_stand, [], []⟩
def D_is_folk : He.DefD := ⟨(("is_folk" : Str), none), ("is_folk" : Str), ("is_folk" : Str), defArgs t_is_folk, defBody t_is_folk, defScope t_is_folk, [], []⟩
def D_is_crowd : He.DefD := ⟨(("is_crowd" : Str), none), ("is_crowd" : Str), ("is_crowd" : Str), defArgs t_is_crowd, defBody t_is_crowd, defScope t_is_crowd, [], []⟩
def D_look_crowd : He.DefD := ⟨(("look_crowd" : Str), none), ("look_crowd" : Str), ("look_crowd" : Str), defArgs t_look_crowd, defBody t_look_crowd, defScope t_look_crowd, [], []⟩
def D_look_one : He.DefD := ⟨(("look_one" : Str), none), ("look_one" : Str), ("look_one" : Str), defArgs t_look_one, defBody t_look_one, defScope t_look_one, [], []⟩
def D_look_folk : He.DefD := ⟨(("look_folk" : Str), none), ("look_folk" : Str), ("look_folk" : Str), defArgs t_look_folk, defBody t_look_folk, defScope t_look_folk, [], []⟩
def D_stood : He.DefD := ⟨(("stood" : Str), none), ("stood" : Str), ("stood" : Str), defArgs t_stood, defBody t_stood, defScope t_stood, [], []⟩
def D_heard : He.DefD := ⟨(("heard" : Str), none), ("heard" : Str), ("heard" : Str), defArgs t_heard, defBody t_heard, defScope t_heard, [], []⟩
def D_ears : He.DefD := ⟨(("ears" : Str), none), ("ears" : Str), ("ears" : Str), defArgs t_ears, defBody t_ears, defScope t_ears, [], []⟩
def D_may_tell : He.DefD := ⟨(("may_tell" : Str), none), ("may_tell" : Str), ("may_tell" : Str), defArgs t_may_tell, defBody t_may_tell, defScope t_may_tell, [], []⟩
def D_common : He.DefD := ⟨(("common" : Str), none), ("common" : Str), ("common" : Str), defArgs t_common, defBody t_common, defScope t_common, [], []⟩
def D_round_of : He.DefD := ⟨(("round_of" : Str), none), ("round_of" : Str), ("round_of" : Str), defArgs t_round_of, defBody t_round_of, defScope t_round_of, [], []⟩
def D_spread : He.DefD := ⟨(("spread" : Str), none), ("spread" : Str), ("spread" : Str), defArgs t_spread, defBody t_spread, defScope t_spread, [], []⟩
def D_closed : He.DefD := ⟨(("closed" : Str), none), ("closed" : Str), ("closed" : Str), defArgs t_closed, defBody t_closed, defScope t_closed, [], []⟩
def D_best_begin : He.DefD := ⟨(("best_begin" : Str), none), ("best_begin" : Str), ("best_begin" : Str), defArgs t_best_begin, defBody t_best_begin, defScope t_best_begin, [], []⟩
def D_keepers : He.DefD := ⟨(("keepers" : Str), none), ("keepers" : Str), ("keepers" : Str), defArgs t_keepers, defBody t_keepers, defScope t_keepers, [], []⟩
def D_silent : He.DefD := ⟨(("silent" : Str), none), ("silent" : Str), ("silent" : Str), defArgs t_silent, defBody t_silent, defScope t_silent, [], []⟩
def D_law_town : He.DefD := ⟨(("_law_town" : Str), none), ("_law_town" : Str), ("_law_town" : Str), defArgs t_law_town, defBody t_law_town, defScope t_law_town, [], []⟩
def D_law_draw : He.DefD := ⟨(("_law_draw" : Str), none), ("_law_draw" : Str), ("_law_draw" : Str), defArgs t_law_draw, defBody t_law_draw, defScope t_law_draw, [], []⟩
def D_law_pick : He.DefD := ⟨(("_law_pick" : Str), none), ("_law_pick" : Str), ("_law_pick" : Str), defArgs t_law_pick, defBody t_law_pick, defScope t_law_pick, [], []⟩
def D_law_refusal : He.DefD := ⟨(("_law_refusal" : Str), none), ("_law_refusal" : Str), ("_law_refusal" : Str), defArgs t_law_refusal, defBody t_law_refusal, defScope t_law_refusal, [], []⟩
def D_law_meetings : He.DefD := ⟨(("_law_meetings" : Str), none), ("_law_meetings" : Str), ("_law_meetings" : Str), defArgs t_law_meetings, defBody t_law_meetings, defScope t_law_meetings, [], []⟩
def D_law_crowd : He.DefD := ⟨(("_law_crowd" : Str), none), ("_law_crowd" : Str), ("_law_crowd" : Str), defArgs t_law_crowd, defBody t_law_crowd, defScope t_law_crowd, [], []⟩
def D_law_stand : He.DefD := ⟨(("_law_stand" : Str), none), ("_law_stand" : Str), ("_law_stand" : Str), defArgs t_law_stand, defBody t_law_stand, defScope t_law_stand, [], []⟩
def D_law_hears : He.DefD := ⟨(("_law_hears" : Str), none), ("_law_hears" : Str), ("_law_hears" : Str), defArgs t_law_hears, defBody t_law_hears, defScope t_law_hears, [], []⟩
def D_law_ears : He.DefD := ⟨(("_law_ears" : Str), none), ("_law_ears" : Str), ("_law_ears" : Str), defArgs t_law_ears, defBody t_law_ears, defScope t_law_ears, [], []⟩
def D_law_let : He.DefD := ⟨(("_law_let" : Str), none), ("_law_let" : Str), ("_law_let" : Str), defArgs t_law_let, defBody t_law_let, defScope t_law_let, [], []⟩
def D_law_size : He.DefD := ⟨(("_law_size" : Str), none), ("_law_size" : Str), ("_law_size" : Str), defArgs t_law_size, defBody t_law_size, defScope t_law_size, [], []⟩
def D_law_some : He.DefD := ⟨(("_law_some" : Str), none), ("_law_some" : Str), ("_law_some" : Str), defArgs t_law_some, defBody t_law_some, defScope t_law_some, [], []⟩
def D_law_firsts : He.DefD := ⟨(("_law_firsts" : Str), none), ("_law_firsts" : Str), ("_law_firsts" : Str), defArgs t_law_firsts, defBody t_law_firsts, defScope t_law_firsts, [], []⟩
def D_law_owners : He.DefD := ⟨(("_law_owners" : Str), none), ("_law_owners" : Str), ("_law_owners" : Str), defArgs t_law_owners, defBody t_law_owners, defScope t_law_owners, [], []⟩
def D_law_home : He.DefD := ⟨(("_law_home" : Str), none), ("_law_home" : Str), ("_law_home" : Str), defArgs t_law_home, defBody t_law_home, defScope t_law_home, [], []⟩
def D_law_told : He.DefD := ⟨(("_law_told" : Str), none), ("_law_told" : Str), ("_law_told" : Str), defArgs t_law_told, defBody t_law_told, defScope t_law_told, [], []⟩
def D_law_dumb : He.DefD := ⟨(("_law_dumb" : Str), none), ("_law_dumb" : Str), ("_law_dumb" : Str), defArgs t_law_dumb, defBody t_law_dumb, defScope t_law_dumb, [], []⟩
def D_law : He.DefD := ⟨(("law" : Str), none), ("law" : Str), ("law" : Str), defArgs t_law, defBody t_law, defScope t_law, [], []⟩
def dfs : List He.DefD := [D_is_whole, D_is_stand, D_is_folk, D_is_crowd, D_look_crowd, D_look_one, D_look_folk, D_stood, D_heard, D_ears, D_may_tell, D_common, D_round_of, D_spread, D_closed, D_best_begin, D_keepers, D_silent, D_law_town, D_law_draw, D_law_pick, D_law_refusal, D_law_meetings, D_law_crowd, D_law_stand, D_law_hears, D_law_ears, D_law_let, D_law_size, D_law_some, D_law_firsts, D_law_owners, D_law_home, D_law_told, D_law_dumb, D_law]
def cN : Kx → Str
  | .crowd => ("BadCrowd" : Str)
  | .folk => ("BadFolk" : Str)
  | .beat => ("BadBeat" : Str)
  | .row => ("BadRow" : Str)
  | .notes => ("BadNotes" : Str)
  | .paper => ("BadPaper" : Str)
  | .text => ("BadText" : Str)
  | .none => ("NoneSuch" : Str)
def CC (K : PySem.W.Frag) (c : Kx) : Addr := He.ga K (cN c)
def fas : List He.Fa := [.glo ("is_whole" : Str), .glo ("is_stand" : Str), .glo ("is_folk" : Str), .glo ("is_crowd" : Str), .glo ("look_crowd" : Str), .glo ("look_one" : Str), .glo ("look_folk" : Str), .glo ("stood" : Str), .glo ("heard" : Str), .glo ("ears" : Str), .glo ("may_tell" : Str), .glo ("common" : Str), .glo ("round_of" : Str), .glo ("spread" : Str), .glo ("closed" : Str), .glo ("best_begin" : Str), .glo ("keepers" : Str), .glo ("silent" : Str), .glo ("_law_town" : Str), .glo ("_law_draw" : Str), .glo ("_law_pick" : Str), .glo ("_law_refusal" : Str), .glo ("_law_meetings" : Str), .glo ("_law_crowd" : Str), .glo ("_law_stand" : Str), .glo ("_law_hears" : Str), .glo ("_law_ears" : Str), .glo ("_law_let" : Str), .glo ("_law_size" : Str), .glo ("_law_some" : Str), .glo ("_law_firsts" : Str), .glo ("_law_owners" : Str), .glo ("_law_home" : Str), .glo ("_law_told" : Str), .glo ("_law_dumb" : Str), .glo ("law" : Str), .free ("ValueError" : Str), .free ("abs" : Str), .free ("all" : Str), .free ("any" : Str), .free ("bool" : Str), .free ("int" : Str), .free ("isinstance" : Str), .free ("len" : Str), .free ("list" : Str), .free ("max" : Str), .free ("min" : Str), .free ("range" : Str), .free ("sorted" : Str), .free ("tuple" : Str), .glo ("BadCrowd" : Str), .glo ("BadFolk" : Str), .glo ("NoneSuch" : Str), .exc ("BadCrowd" : Str), .exc ("BadFolk" : Str), .exc ("NoneSuch" : Str), .glo ("BadBeat" : Str), .glo ("BadCrowd" : Str), .glo ("BadFolk" : Str), .glo ("BadNotes" : Str), .glo ("BadPaper" : Str), .glo ("BadRow" : Str), .glo ("BadText" : Str), .glo ("HushError" : Str), .glo ("NoneSuch" : Str)]
def exs (K : PySem.W.Frag) : List Bool := [conB K ("MOST_FOLK" : Str) (.int 8), conB K ("MOST_PLACE" : Str) (.int 9), conB K ("MOST_STANDS" : Str) (.int 6), conB K ("WAYS" : Str) (.tup [(.tup [(.int 1), (.int 0)]), (.tup [(.int 0), (.int 1)]), (.tup [(.int (-1)), (.int 0)]), (.tup [(.int 0), (.int (-1))])]), excCA K (CC K), kitB K (CC K) (.ref (He.ga K ("BadBeat" : Str))) (kOne .beat), kitB K (CC K) (.ref (He.ga K ("BadCrowd" : Str))) (kOne .crowd), kitB K (CC K) (.ref (He.ga K ("BadFolk" : Str))) (kOne .folk), kitB K (CC K) (.ref (He.ga K ("BadNotes" : Str))) (kOne .notes), kitB K (CC K) (.ref (He.ga K ("BadPaper" : Str))) (kOne .paper), kitB K (CC K) (.ref (He.ga K ("BadRow" : Str))) (kOne .row), kitB K (CC K) (.ref (He.ga K ("BadText" : Str))) (kOne .text), kitB K (CC K) (.ref (He.ga K ("HushError" : Str))) kAny, kitB K (CC K) (.ref (He.ga K ("NoneSuch" : Str))) (kOne .none), kitB K (CC K) (.type "ValueError") kAny, exmB K (CC K) (.ref (He.ga K ("HushError" : Str)))]
def exB (K : PySem.W.Frag) : Bool := (exs K).all id
abbrev Rw : PySem.W.OpenRow := PySem.W.OpenLaw.row PySem.Challenge.rw_hushways_k05_whole_begins
abbrev hk : PySem.W.Hook := hookE 4 fas dfs exB
def ob (s : PySem.W.SharedT) : AlE := obsE 4 fas dfs exB (HandSHeadRun.getT s)
theorem ob_eq (s : PySem.W.SharedT) : ob s = hk.obs s.abs := obsE_eq (HandSHeadRun.getT_eq s)
def nm0 : List Str := [("HushError" : Str), ("BadCrowd" : Str), ("BadFolk" : Str), ("BadBeat" : Str), ("BadRow" : Str), ("BadNotes" : Str), ("BadPaper" : Str), ("BadText" : Str), ("NoneSuch" : Str), ("is_whole" : Str), ("MOST_FOLK" : Str), ("MOST_STANDS" : Str), ("MOST_PLACE" : Str), ("WAYS" : Str), ("is_stand" : Str), ("is_folk" : Str), ("is_crowd" : Str), ("look_crowd" : Str), ("look_one" : Str), ("look_folk" : Str), ("stood" : Str), ("heard" : Str), ("ears" : Str), ("may_tell" : Str), ("common" : Str), ("round_of" : Str), ("spread" : Str), ("closed" : Str), ("best_begin" : Str), ("keepers" : Str)]
def nm1 : List Str := [("silent" : Str), ("_law_town" : Str), ("_law_draw" : Str), ("_law_pick" : Str), ("_law_refusal" : Str), ("_law_meetings" : Str), ("_law_crowd" : Str), ("_law_stand" : Str), ("_law_hears" : Str), ("_law_ears" : Str), ("_law_let" : Str), ("_law_size" : Str), ("_law_some" : Str), ("_law_firsts" : Str), ("_law_owners" : Str), ("_law_home" : Str), ("_law_told" : Str), ("_law_dumb" : Str)]
def names : List Str := nm0 ++ nm1
set_option maxHeartbeats 0 in
theorem run (w : World) : HandSHeadRun.RunEq Rw (PySem.W.view Rw.prog [52]) hk ob 8000 names w := by
  intro os
  kernel_rfl
theorem exs_at {K : PySem.W.Frag} (c : exB K = true) (i : Nat) {b : Bool} (h : (exs K)[i]? = some b := by rfl) : b = true := List.all_eq_true.mp c b (List.mem_of_getElem? h)
theorem facts {P : Program} {W : World} {K : PySem.W.Frag} {h : Heap} {mg : Str → Option Value} {f : Addr} (X : K.In h) (G : h.Ns mainGlobals mg) (hfa : mg (("law" : Str)) = some (.ref f)) (c : He.SaysD fas dfs K) (ce : exB K = true) :
    ∃ fd : FuncData, (∀ (s : Shared) (v : Value), BindsTo s fd ⟨[v], []⟩ [("_law_script", v)]) ∧ ∀ base : Heap, K.In base → base.Ns mainGlobals mg → FnOk P W K mg base (L2.CX P W) 8 f fd ["_law_script"] (spF K (CC K) f_law 1) := by
  have T : Txt K mg (CC K) := { b_ValueError := He.free_ok X G (c.fact 36 (f := .free ("ValueError" : Str)) rfl), b_abs := He.free_ok X G (c.fact 37 (f := .free ("abs" : Str)) rfl), b_all := He.free_ok X G (c.fact 38 (f := .free ("all" : Str)) rfl), b_any := He.free_ok X G (c.fact 39 (f := .free ("any" : Str)) rfl), b_bool := He.free_ok X G (c.fact 40 (f := .free ("bool" : Str)) rfl), b_int := He.free_ok X G (c.fact 41 (f := .free ("int" : Str)) rfl), b_isinstance := He.free_ok X G (c.fact 42 (f := .free ("isinstance" : Str)) rfl), b_len := He.free_ok X G (c.fact 43 (f := .free ("len" : Str)) rfl), b_list := He.free_ok X G (c.fact 44 (f := .free ("list" : Str)) rfl), b_max := He.free_ok X G (c.fact 45 (f := .free ("max" : Str)) rfl), b_min := He.free_ok X G (c.fact 46 (f := .free ("min" : Str)) rfl), b_range := He.free_ok X G (c.fact 47 (f := .free ("range" : Str)) rfl), b_sorted := He.free_ok X G (c.fact 48 (f := .free ("sorted" : Str)) rfl), b_tuple := He.free_ok X G (c.fact 49 (f := .free ("tuple" : Str)) rfl), c_MOST_FOLK := conB_ok X G (exs_at ce 0), c_MOST_PLACE := conB_ok X G (exs_at ce 1), c_MOST_STANDS := conB_ok X G (exs_at ce 2), c_WAYS := conB_ok X G (exs_at ce 3), x_BadCrowd := excT_of X G rfl (c.fact 50 (f := .glo ("BadCrowd" : Str)) rfl) (c.fact 53 (f := .exc ("BadCrowd" : Str)) rfl), x_BadFolk := excT_of X G rfl (c.fact 51 (f := .glo ("BadFolk" : Str)) rfl) (c.fact 54 (f := .exc ("BadFolk" : Str)) rfl), x_NoneSuch := excT_of X G rfl (c.fact 52 (f := .glo ("NoneSuch" : Str)) rfl) (c.fact 55 (f := .exc ("NoneSuch" : Str)) rfl), ec := excCA_ok (exs_at ce 4), i_BadBeat := ⟨He.glo_ok X G (c.fact 56 (f := .glo ("BadBeat" : Str)) rfl), kitB_ok (exs_at ce 5)⟩, i_BadCrowd := ⟨He.glo_ok X G (c.fact 57 (f := .glo ("BadCrowd" : Str)) rfl), kitB_ok (exs_at ce 6)⟩, i_BadFolk := ⟨He.glo_ok X G (c.fact 58 (f := .glo ("BadFolk" : Str)) rfl), kitB_ok (exs_at ce 7)⟩, i_BadNotes := ⟨He.glo_ok X G (c.fact 59 (f := .glo ("BadNotes" : Str)) rfl), kitB_ok (exs_at ce 8)⟩, i_BadPaper := ⟨He.glo_ok X G (c.fact 60 (f := .glo ("BadPaper" : Str)) rfl), kitB_ok (exs_at ce 9)⟩, i_BadRow := ⟨He.glo_ok X G (c.fact 61 (f := .glo ("BadRow" : Str)) rfl), kitB_ok (exs_at ce 10)⟩, i_BadText := ⟨He.glo_ok X G (c.fact 62 (f := .glo ("BadText" : Str)) rfl), kitB_ok (exs_at ce 11)⟩, i_HushError := ⟨He.glo_ok X G (c.fact 63 (f := .glo ("HushError" : Str)) rfl), kitB_ok (exs_at ce 12)⟩, i_NoneSuch := ⟨He.glo_ok X G (c.fact 64 (f := .glo ("NoneSuch" : Str)) rfl), kitB_ok (exs_at ce 13)⟩, i_ValueError := kitB_ok (exs_at ce 14), h_HushError := ⟨He.glo_ok X G (c.fact 63 (f := .glo ("HushError" : Str)) rfl), exmB_ok (exs_at ce 15)⟩ }
  obtain ⟨fd_is_whole, F_is_whole⟩ := c.def_ 0 (d := D_is_whole) rfl
  have g_is_whole : mg ("is_whole" : Str) = some (.ref (He.ga K ("is_whole" : Str))) := He.glo_ok X G (c.fact 0 (f := .glo ("is_whole" : Str)) rfl)
  obtain ⟨fd_is_stand, F_is_stand⟩ := c.def_ 1 (d := D_is_stand) rfl
  have g_is_stand : mg ("is_stand" : Str) = some (.ref (He.ga K ("is_stand" : Str))) := He.glo_ok X G (c.fact 1 (f := .glo ("is_stand" : Str)) rfl)
  obtain ⟨fd_is_folk, F_is_folk⟩ := c.def_ 2 (d := D_is_folk) rfl
  have g_is_folk : mg ("is_folk" : Str) = some (.ref (He.ga K ("is_folk" : Str))) := He.glo_ok X G (c.fact 2 (f := .glo ("is_folk" : Str)) rfl)
  obtain ⟨fd_is_crowd, F_is_crowd⟩ := c.def_ 3 (d := D_is_crowd) rfl
  have g_is_crowd : mg ("is_crowd" : Str) = some (.ref (He.ga K ("is_crowd" : Str))) := He.glo_ok X G (c.fact 3 (f := .glo ("is_crowd" : Str)) rfl)
  obtain ⟨fd_look_crowd, F_look_crowd⟩ := c.def_ 4 (d := D_look_crowd) rfl
  have g_look_crowd : mg ("look_crowd" : Str) = some (.ref (He.ga K ("look_crowd" : Str))) := He.glo_ok X G (c.fact 4 (f := .glo ("look_crowd" : Str)) rfl)
  obtain ⟨fd_look_one, F_look_one⟩ := c.def_ 5 (d := D_look_one) rfl
  have g_look_one : mg ("look_one" : Str) = some (.ref (He.ga K ("look_one" : Str))) := He.glo_ok X G (c.fact 5 (f := .glo ("look_one" : Str)) rfl)
  obtain ⟨fd_look_folk, F_look_folk⟩ := c.def_ 6 (d := D_look_folk) rfl
  have g_look_folk : mg ("look_folk" : Str) = some (.ref (He.ga K ("look_folk" : Str))) := He.glo_ok X G (c.fact 6 (f := .glo ("look_folk" : Str)) rfl)
  obtain ⟨fd_stood, F_stood⟩ := c.def_ 7 (d := D_stood) rfl
  have g_stood : mg ("stood" : Str) = some (.ref (He.ga K ("stood" : Str))) := He.glo_ok X G (c.fact 7 (f := .glo ("stood" : Str)) rfl)
  obtain ⟨fd_heard, F_heard⟩ := c.def_ 8 (d := D_heard) rfl
  have g_heard : mg ("heard" : Str) = some (.ref (He.ga K ("heard" : Str))) := He.glo_ok X G (c.fact 8 (f := .glo ("heard" : Str)) rfl)
  obtain ⟨fd_ears, F_ears⟩ := c.def_ 9 (d := D_ears) rfl
  have g_ears : mg ("ears" : Str) = some (.ref (He.ga K ("ears" : Str))) := He.glo_ok X G (c.fact 9 (f := .glo ("ears" : Str)) rfl)
  obtain ⟨fd_may_tell, F_may_tell⟩ := c.def_ 10 (d := D_may_tell) rfl
  have g_may_tell : mg ("may_tell" : Str) = some (.ref (He.ga K ("may_tell" : Str))) := He.glo_ok X G (c.fact 10 (f := .glo ("may_tell" : Str)) rfl)
  obtain ⟨fd_common, F_common⟩ := c.def_ 11 (d := D_common) rfl
  have g_common : mg ("common" : Str) = some (.ref (He.ga K ("common" : Str))) := He.glo_ok X G (c.fact 11 (f := .glo ("common" : Str)) rfl)
  obtain ⟨fd_round_of, F_round_of⟩ := c.def_ 12 (d := D_round_of) rfl
  have g_round_of : mg ("round_of" : Str) = some (.ref (He.ga K ("round_of" : Str))) := He.glo_ok X G (c.fact 12 (f := .glo ("round_of" : Str)) rfl)
  obtain ⟨fd_spread, F_spread⟩ := c.def_ 13 (d := D_spread) rfl
  have g_spread : mg ("spread" : Str) = some (.ref (He.ga K ("spread" : Str))) := He.glo_ok X G (c.fact 13 (f := .glo ("spread" : Str)) rfl)
  obtain ⟨fd_closed, F_closed⟩ := c.def_ 14 (d := D_closed) rfl
  have g_closed : mg ("closed" : Str) = some (.ref (He.ga K ("closed" : Str))) := He.glo_ok X G (c.fact 14 (f := .glo ("closed" : Str)) rfl)
  obtain ⟨fd_best_begin, F_best_begin⟩ := c.def_ 15 (d := D_best_begin) rfl
  have g_best_begin : mg ("best_begin" : Str) = some (.ref (He.ga K ("best_begin" : Str))) := He.glo_ok X G (c.fact 15 (f := .glo ("best_begin" : Str)) rfl)
  obtain ⟨fd_keepers, F_keepers⟩ := c.def_ 16 (d := D_keepers) rfl
  have g_keepers : mg ("keepers" : Str) = some (.ref (He.ga K ("keepers" : Str))) := He.glo_ok X G (c.fact 16 (f := .glo ("keepers" : Str)) rfl)
  obtain ⟨fd_silent, F_silent⟩ := c.def_ 17 (d := D_silent) rfl
  have g_silent : mg ("silent" : Str) = some (.ref (He.ga K ("silent" : Str))) := He.glo_ok X G (c.fact 17 (f := .glo ("silent" : Str)) rfl)
  obtain ⟨fd_law_town, F_law_town⟩ := c.def_ 18 (d := D_law_town) rfl
  have g_law_town : mg ("_law_town" : Str) = some (.ref (He.ga K ("_law_town" : Str))) := He.glo_ok X G (c.fact 18 (f := .glo ("_law_town" : Str)) rfl)
  obtain ⟨fd_law_draw, F_law_draw⟩ := c.def_ 19 (d := D_law_draw) rfl
  have g_law_draw : mg ("_law_draw" : Str) = some (.ref (He.ga K ("_law_draw" : Str))) := He.glo_ok X G (c.fact 19 (f := .glo ("_law_draw" : Str)) rfl)
  obtain ⟨fd_law_pick, F_law_pick⟩ := c.def_ 20 (d := D_law_pick) rfl
  have g_law_pick : mg ("_law_pick" : Str) = some (.ref (He.ga K ("_law_pick" : Str))) := He.glo_ok X G (c.fact 20 (f := .glo ("_law_pick" : Str)) rfl)
  obtain ⟨fd_law_refusal, F_law_refusal⟩ := c.def_ 21 (d := D_law_refusal) rfl
  have g_law_refusal : mg ("_law_refusal" : Str) = some (.ref (He.ga K ("_law_refusal" : Str))) := He.glo_ok X G (c.fact 21 (f := .glo ("_law_refusal" : Str)) rfl)
  obtain ⟨fd_law_meetings, F_law_meetings⟩ := c.def_ 22 (d := D_law_meetings) rfl
  have g_law_meetings : mg ("_law_meetings" : Str) = some (.ref (He.ga K ("_law_meetings" : Str))) := He.glo_ok X G (c.fact 22 (f := .glo ("_law_meetings" : Str)) rfl)
  obtain ⟨fd_law_crowd, F_law_crowd⟩ := c.def_ 23 (d := D_law_crowd) rfl
  have g_law_crowd : mg ("_law_crowd" : Str) = some (.ref (He.ga K ("_law_crowd" : Str))) := He.glo_ok X G (c.fact 23 (f := .glo ("_law_crowd" : Str)) rfl)
  obtain ⟨fd_law_stand, F_law_stand⟩ := c.def_ 24 (d := D_law_stand) rfl
  have g_law_stand : mg ("_law_stand" : Str) = some (.ref (He.ga K ("_law_stand" : Str))) := He.glo_ok X G (c.fact 24 (f := .glo ("_law_stand" : Str)) rfl)
  obtain ⟨fd_law_hears, F_law_hears⟩ := c.def_ 25 (d := D_law_hears) rfl
  have g_law_hears : mg ("_law_hears" : Str) = some (.ref (He.ga K ("_law_hears" : Str))) := He.glo_ok X G (c.fact 25 (f := .glo ("_law_hears" : Str)) rfl)
  obtain ⟨fd_law_ears, F_law_ears⟩ := c.def_ 26 (d := D_law_ears) rfl
  have g_law_ears : mg ("_law_ears" : Str) = some (.ref (He.ga K ("_law_ears" : Str))) := He.glo_ok X G (c.fact 26 (f := .glo ("_law_ears" : Str)) rfl)
  obtain ⟨fd_law_let, F_law_let⟩ := c.def_ 27 (d := D_law_let) rfl
  have g_law_let : mg ("_law_let" : Str) = some (.ref (He.ga K ("_law_let" : Str))) := He.glo_ok X G (c.fact 27 (f := .glo ("_law_let" : Str)) rfl)
  obtain ⟨fd_law_size, F_law_size⟩ := c.def_ 28 (d := D_law_size) rfl
  have g_law_size : mg ("_law_size" : Str) = some (.ref (He.ga K ("_law_size" : Str))) := He.glo_ok X G (c.fact 28 (f := .glo ("_law_size" : Str)) rfl)
  obtain ⟨fd_law_some, F_law_some⟩ := c.def_ 29 (d := D_law_some) rfl
  have g_law_some : mg ("_law_some" : Str) = some (.ref (He.ga K ("_law_some" : Str))) := He.glo_ok X G (c.fact 29 (f := .glo ("_law_some" : Str)) rfl)
  obtain ⟨fd_law_firsts, F_law_firsts⟩ := c.def_ 30 (d := D_law_firsts) rfl
  have g_law_firsts : mg ("_law_firsts" : Str) = some (.ref (He.ga K ("_law_firsts" : Str))) := He.glo_ok X G (c.fact 30 (f := .glo ("_law_firsts" : Str)) rfl)
  obtain ⟨fd_law_owners, F_law_owners⟩ := c.def_ 31 (d := D_law_owners) rfl
  have g_law_owners : mg ("_law_owners" : Str) = some (.ref (He.ga K ("_law_owners" : Str))) := He.glo_ok X G (c.fact 31 (f := .glo ("_law_owners" : Str)) rfl)
  obtain ⟨fd_law_home, F_law_home⟩ := c.def_ 32 (d := D_law_home) rfl
  have g_law_home : mg ("_law_home" : Str) = some (.ref (He.ga K ("_law_home" : Str))) := He.glo_ok X G (c.fact 32 (f := .glo ("_law_home" : Str)) rfl)
  obtain ⟨fd_law_told, F_law_told⟩ := c.def_ 33 (d := D_law_told) rfl
  have g_law_told : mg ("_law_told" : Str) = some (.ref (He.ga K ("_law_told" : Str))) := He.glo_ok X G (c.fact 33 (f := .glo ("_law_told" : Str)) rfl)
  obtain ⟨fd_law_dumb, F_law_dumb⟩ := c.def_ 34 (d := D_law_dumb) rfl
  have g_law_dumb : mg ("_law_dumb" : Str) = some (.ref (He.ga K ("_law_dumb" : Str))) := He.glo_ok X G (c.fact 34 (f := .glo ("_law_dumb" : Str)) rfl)
  obtain ⟨fd_law, F_law⟩ := c.def_ 35 (d := D_law) rfl
  have g_law : mg ("law" : Str) = some (.ref (He.ga K ("law" : Str))) := He.glo_ok X G (c.fact 35 (f := .glo ("law" : Str)) rfl)
  have e := hfa.symm.trans g_law
  cases e
  refine ⟨fd_law, fun s v => FunD.bindsA (ps := ["_law_script"]) F_law (fun _ _ _ _ _ _ us hl => match us, hl with | [_], _ => rfl) s [v] rfl, fun base _ _ => ?_⟩
  have K_is_whole := k_is_whole (P := P) (W := W) (base := base) (C := CC K) T  F_is_whole
  have c_is_whole : Cal P W K mg base (CC K) ("is_whole" : Str) 1 3 f_is_whole := ⟨He.ga K ("is_whole" : Str), fd_is_whole, _, g_is_whole, F_is_whole.kp, K_is_whole, FunD.bindsN (ps := [("thing" : Str), ("low" : Str), ("high" : Str)]) F_is_whole fun _ _ _ _ _ _ us hl => match us, hl with | [_, _, _], _ => rfl⟩
  have K_stood := k_stood (P := P) (W := W) (base := base) (C := CC K) T  F_stood
  have c_stood : Cal P W K mg base (CC K) ("stood" : Str) 1 4 f_stood := ⟨He.ga K ("stood" : Str), fd_stood, _, g_stood, F_stood.kp, K_stood, FunD.bindsN (ps := [("crowd" : Str), ("one" : Str), ("beat" : Str), ("late" : Str)]) F_stood fun _ _ _ _ _ _ us hl => match us, hl with | [_, _, _, _], _ => rfl⟩
  have K_common := k_common (P := P) (W := W) (base := base) (C := CC K) T  F_common
  have c_common : Cal P W K mg base (CC K) ("common" : Str) 1 2 f_common := ⟨He.ga K ("common" : Str), fd_common, _, g_common, F_common.kp, K_common, FunD.bindsN (ps := [("one" : Str), ("other" : Str)]) F_common fun _ _ _ _ _ _ us hl => match us, hl with | [_, _], _ => rfl⟩
  have K_law_town := k_law_town (P := P) (W := W) (base := base) (C := CC K) T  F_law_town
  have c_law_town : Cal P W K mg base (CC K) ("_law_town" : Str) 1 1 f_law_town := ⟨He.ga K ("_law_town" : Str), fd_law_town, _, g_law_town, F_law_town.kp, K_law_town, FunD.bindsN (ps := [("_law_script" : Str)]) F_law_town fun _ _ _ _ _ _ us hl => match us, hl with | [_], _ => rfl⟩
  have K_law_draw := k_law_draw (P := P) (W := W) (base := base) (C := CC K) T  F_law_draw
  have c_law_draw : Cal P W K mg base (CC K) ("_law_draw" : Str) 1 2 f_law_draw := ⟨He.ga K ("_law_draw" : Str), fd_law_draw, _, g_law_draw, F_law_draw.kp, K_law_draw, FunD.bindsN (ps := [("_law_town_here" : Str), ("_law_count" : Str)]) F_law_draw fun _ _ _ _ _ _ us hl => match us, hl with | [_, _], _ => rfl⟩
  have K_law_refusal := k_law_refusal (P := P) (W := W) (base := base) (C := CC K) T  F_law_refusal
  have c_law_refusal : Cal P W K mg base (CC K) ("_law_refusal" : Str) 1 1 f_law_refusal := ⟨He.ga K ("_law_refusal" : Str), fd_law_refusal, _, g_law_refusal, F_law_refusal.kp, K_law_refusal, FunD.bindsN (ps := [("_law_caught" : Str)]) F_law_refusal fun _ _ _ _ _ _ us hl => match us, hl with | [_], _ => rfl⟩
  have K_law_stand := k_law_stand (P := P) (W := W) (base := base) (C := CC K) T  F_law_stand
  have c_law_stand : Cal P W K mg base (CC K) ("_law_stand" : Str) 1 4 f_law_stand := ⟨He.ga K ("_law_stand" : Str), fd_law_stand, _, g_law_stand, F_law_stand.kp, K_law_stand, FunD.bindsN (ps := [("_law_crowd_here" : Str), ("_law_one" : Str), ("_law_beat" : Str), ("_law_behind_of" : Str)]) F_law_stand fun _ _ _ _ _ _ us hl => match us, hl with | [_, _, _, _], _ => rfl⟩
  have K_law_size := k_law_size (P := P) (W := W) (base := base) (C := CC K) T  F_law_size
  have c_law_size : Cal P W K mg base (CC K) ("_law_size" : Str) 1 1 f_law_size := ⟨He.ga K ("_law_size" : Str), fd_law_size, _, g_law_size, F_law_size.kp, K_law_size, FunD.bindsN (ps := [("_law_crowds" : Str)]) F_law_size fun _ _ _ _ _ _ us hl => match us, hl with | [_], _ => rfl⟩
  have K_is_stand := k_is_stand (P := P) (W := W) (base := base) (C := CC K) T c_is_whole F_is_stand
  have c_is_stand : Cal P W K mg base (CC K) ("is_stand" : Str) 2 1 f_is_stand := ⟨He.ga K ("is_stand" : Str), fd_is_stand, _, g_is_stand, F_is_stand.kp, K_is_stand, FunD.bindsN (ps := [("thing" : Str)]) F_is_stand fun _ _ _ _ _ _ us hl => match us, hl with | [_], _ => rfl⟩
  have K_is_folk := k_is_folk (P := P) (W := W) (base := base) (C := CC K) T c_is_whole F_is_folk
  have c_is_folk : Cal P W K mg base (CC K) ("is_folk" : Str) 2 2 f_is_folk := ⟨He.ga K ("is_folk" : Str), fd_is_folk, _, g_is_folk, F_is_folk.kp, K_is_folk, FunD.bindsN (ps := [("thing" : Str), ("many" : Str)]) F_is_folk fun _ _ _ _ _ _ us hl => match us, hl with | [_, _], _ => rfl⟩
  have K_look_one := k_look_one (P := P) (W := W) (base := base) (C := CC K) T c_is_whole F_look_one
  have c_look_one : Cal P W K mg base (CC K) ("look_one" : Str) 2 2 f_look_one := ⟨He.ga K ("look_one" : Str), fd_look_one, _, g_look_one, F_look_one.kp, K_look_one, FunD.bindsN (ps := [("crowd" : Str), ("thing" : Str)]) F_look_one fun _ _ _ _ _ _ us hl => match us, hl with | [_, _], _ => rfl⟩
  have K_heard := k_heard (P := P) (W := W) (base := base) (C := CC K) T c_stood F_heard
  have c_heard : Cal P W K mg base (CC K) ("heard" : Str) 2 5 f_heard := ⟨He.ga K ("heard" : Str), fd_heard, _, g_heard, F_heard.kp, K_heard, FunD.bindsN (ps := [("crowd" : Str), ("one" : Str), ("other" : Str), ("beat" : Str), ("late" : Str)]) F_heard fun _ _ _ _ _ _ us hl => match us, hl with | [_, _, _, _, _], _ => rfl⟩
  have K_round_of := k_round_of (P := P) (W := W) (base := base) (C := CC K) T c_common F_round_of
  have c_round_of : Cal P W K mg base (CC K) ("round_of" : Str) 2 1 f_round_of := ⟨He.ga K ("round_of" : Str), fd_round_of, _, g_round_of, F_round_of.kp, K_round_of, FunD.bindsN (ps := [("crowds" : Str)]) F_round_of fun _ _ _ _ _ _ us hl => match us, hl with | [_], _ => rfl⟩
  have K_law_pick := k_law_pick (P := P) (W := W) (base := base) (C := CC K) T c_law_draw F_law_pick
  have c_law_pick : Cal P W K mg base (CC K) ("_law_pick" : Str) 2 2 f_law_pick := ⟨He.ga K ("_law_pick" : Str), fd_law_pick, _, g_law_pick, F_law_pick.kp, K_law_pick, FunD.bindsN (ps := [("_law_town_here" : Str), ("_law_some_here" : Str)]) F_law_pick fun _ _ _ _ _ _ us hl => match us, hl with | [_, _], _ => rfl⟩
  have K_law_hears := k_law_hears (P := P) (W := W) (base := base) (C := CC K) T c_law_stand F_law_hears
  have c_law_hears : Cal P W K mg base (CC K) ("_law_hears" : Str) 2 5 f_law_hears := ⟨He.ga K ("_law_hears" : Str), fd_law_hears, _, g_law_hears, F_law_hears.kp, K_law_hears, FunD.bindsN (ps := [("_law_crowd_here" : Str), ("_law_one" : Str), ("_law_two" : Str), ("_law_beat" : Str), ("_law_behind_of" : Str)]) F_law_hears fun _ _ _ _ _ _ us hl => match us, hl with | [_, _, _, _, _], _ => rfl⟩
  have K_law_some := k_law_some (P := P) (W := W) (base := base) (C := CC K) T c_law_draw F_law_some
  have c_law_some : Cal P W K mg base (CC K) ("_law_some" : Str) 2 3 f_law_some := ⟨He.ga K ("_law_some" : Str), fd_law_some, _, g_law_some, F_law_some.kp, K_law_some, FunD.bindsN (ps := [("_law_town_here" : Str), ("_law_count" : Str), ("_law_much" : Str)]) F_law_some fun _ _ _ _ _ _ us hl => match us, hl with | [_, _, _], _ => rfl⟩
  have K_is_crowd := k_is_crowd (P := P) (W := W) (base := base) (C := CC K) T c_is_whole c_is_stand c_is_folk F_is_crowd
  have c_is_crowd : Cal P W K mg base (CC K) ("is_crowd" : Str) 3 1 f_is_crowd := ⟨He.ga K ("is_crowd" : Str), fd_is_crowd, _, g_is_crowd, F_is_crowd.kp, K_is_crowd, FunD.bindsN (ps := [("thing" : Str)]) F_is_crowd fun _ _ _ _ _ _ us hl => match us, hl with | [_], _ => rfl⟩
  have K_look_folk := k_look_folk (P := P) (W := W) (base := base) (C := CC K) T c_is_folk F_look_folk
  have c_look_folk : Cal P W K mg base (CC K) ("look_folk" : Str) 3 2 f_look_folk := ⟨He.ga K ("look_folk" : Str), fd_look_folk, _, g_look_folk, F_look_folk.kp, K_look_folk, FunD.bindsN (ps := [("crowd" : Str), ("thing" : Str)]) F_look_folk fun _ _ _ _ _ _ us hl => match us, hl with | [_, _], _ => rfl⟩
  have K_ears := k_ears (P := P) (W := W) (base := base) (C := CC K) T c_heard F_ears
  have c_ears : Cal P W K mg base (CC K) ("ears" : Str) 3 4 f_ears := ⟨He.ga K ("ears" : Str), fd_ears, _, g_ears, F_ears.kp, K_ears, FunD.bindsN (ps := [("crowd" : Str), ("teller" : Str), ("beat" : Str), ("late" : Str)]) F_ears fun _ _ _ _ _ _ us hl => match us, hl with | [_, _, _, _], _ => rfl⟩
  have K_law_meetings := k_law_meetings (P := P) (W := W) (base := base) (C := CC K) T c_law_draw c_law_pick F_law_meetings
  have c_law_meetings : Cal P W K mg base (CC K) ("_law_meetings" : Str) 3 3 f_law_meetings := ⟨He.ga K ("_law_meetings" : Str), fd_law_meetings, _, g_law_meetings, F_law_meetings.kp, K_law_meetings, FunD.bindsN (ps := [("_law_town_here" : Str), ("_law_count" : Str), ("_law_long_of" : Str)]) F_law_meetings fun _ _ _ _ _ _ us hl => match us, hl with | [_, _, _], _ => rfl⟩
  have K_law_ears := k_law_ears (P := P) (W := W) (base := base) (C := CC K) T c_law_hears F_law_ears
  have c_law_ears : Cal P W K mg base (CC K) ("_law_ears" : Str) 3 4 f_law_ears := ⟨He.ga K ("_law_ears" : Str), fd_law_ears, _, g_law_ears, F_law_ears.kp, K_law_ears, FunD.bindsN (ps := [("_law_crowd_here" : Str), ("_law_teller" : Str), ("_law_beat" : Str), ("_law_behind_of" : Str)]) F_law_ears fun _ _ _ _ _ _ us hl => match us, hl with | [_, _, _, _], _ => rfl⟩
  have K_law_owners := k_law_owners (P := P) (W := W) (base := base) (C := CC K) T c_law_draw c_law_pick c_law_some F_law_owners
  have c_law_owners : Cal P W K mg base (CC K) ("_law_owners" : Str) 3 2 f_law_owners := ⟨He.ga K ("_law_owners" : Str), fd_law_owners, _, g_law_owners, F_law_owners.kp, K_law_owners, FunD.bindsN (ps := [("_law_town_here" : Str), ("_law_count" : Str)]) F_law_owners fun _ _ _ _ _ _ us hl => match us, hl with | [_, _], _ => rfl⟩
  have K_law_home := k_law_home (P := P) (W := W) (base := base) (C := CC K) T c_law_draw c_law_pick F_law_home
  have c_law_home : Cal P W K mg base (CC K) ("_law_home" : Str) 3 3 f_law_home := ⟨He.ga K ("_law_home" : Str), fd_law_home, _, g_law_home, F_law_home.kp, K_law_home, FunD.bindsN (ps := [("_law_town_here" : Str), ("_law_count" : Str), ("_law_owners_here" : Str)]) F_law_home fun _ _ _ _ _ _ us hl => match us, hl with | [_, _, _], _ => rfl⟩
  have K_look_crowd := k_look_crowd (P := P) (W := W) (base := base) (C := CC K) T c_is_crowd F_look_crowd
  have c_look_crowd : Cal P W K mg base (CC K) ("look_crowd" : Str) 4 1 f_look_crowd := ⟨He.ga K ("look_crowd" : Str), fd_look_crowd, _, g_look_crowd, F_look_crowd.kp, K_look_crowd, FunD.bindsN (ps := [("thing" : Str)]) F_look_crowd fun _ _ _ _ _ _ us hl => match us, hl with | [_], _ => rfl⟩
  have K_may_tell := k_may_tell (P := P) (W := W) (base := base) (C := CC K) T c_ears F_may_tell
  have c_may_tell : Cal P W K mg base (CC K) ("may_tell" : Str) 4 4 f_may_tell := ⟨He.ga K ("may_tell" : Str), fd_may_tell, _, g_may_tell, F_may_tell.kp, K_may_tell, FunD.bindsN (ps := [("crowd" : Str), ("teller" : Str), ("beat" : Str), ("late" : Str)]) F_may_tell fun _ _ _ _ _ _ us hl => match us, hl with | [_, _, _, _], _ => rfl⟩
  have K_law_crowd := k_law_crowd (P := P) (W := W) (base := base) (C := CC K) T c_law_draw c_law_pick c_law_meetings F_law_crowd
  have c_law_crowd : Cal P W K mg base (CC K) ("_law_crowd" : Str) 4 3 f_law_crowd := ⟨He.ga K ("_law_crowd" : Str), fd_law_crowd, _, g_law_crowd, F_law_crowd.kp, K_law_crowd, FunD.bindsN (ps := [("_law_town_here" : Str), ("_law_count" : Str), ("_law_long_of" : Str)]) F_law_crowd fun _ _ _ _ _ _ us hl => match us, hl with | [_, _, _], _ => rfl⟩
  have K_law_let := k_law_let (P := P) (W := W) (base := base) (C := CC K) T c_law_ears F_law_let
  have c_law_let : Cal P W K mg base (CC K) ("_law_let" : Str) 4 4 f_law_let := ⟨He.ga K ("_law_let" : Str), fd_law_let, _, g_law_let, F_law_let.kp, K_law_let, FunD.bindsN (ps := [("_law_crowd_here" : Str), ("_law_teller" : Str), ("_law_beat" : Str), ("_law_behind_of" : Str)]) F_law_let fun _ _ _ _ _ _ us hl => match us, hl with | [_, _, _, _], _ => rfl⟩
  have K_spread := k_spread (P := P) (W := W) (base := base) (C := CC K) T c_ears c_may_tell c_round_of F_spread
  have c_spread : Cal P W K mg base (CC K) ("spread" : Str) 5 4 f_spread := ⟨He.ga K ("spread" : Str), fd_spread, _, g_spread, F_spread.kp, K_spread, FunD.bindsN (ps := [("crowd" : Str), ("holders" : Str), ("begin" : Str), ("late" : Str)]) F_spread fun _ _ _ _ _ _ us hl => match us, hl with | [_, _, _, _], _ => rfl⟩
  have K_closed := k_closed (P := P) (W := W) (base := base) (C := CC K) T c_ears c_may_tell c_round_of F_closed
  have c_closed : Cal P W K mg base (CC K) ("closed" : Str) 5 2 f_closed := ⟨He.ga K ("closed" : Str), fd_closed, _, g_closed, F_closed.kp, K_closed, FunD.bindsN (ps := [("crowd" : Str), ("holders" : Str)]) F_closed fun _ _ _ _ _ _ us hl => match us, hl with | [_, _], _ => rfl⟩
  have K_silent := k_silent (P := P) (W := W) (base := base) (C := CC K) T c_ears c_may_tell c_round_of F_silent
  have c_silent : Cal P W K mg base (CC K) ("silent" : Str) 5 3 f_silent := ⟨He.ga K ("silent" : Str), fd_silent, _, g_silent, F_silent.kp, K_silent, FunD.bindsN (ps := [("crowd" : Str), ("holders" : Str), ("dumb" : Str)]) F_silent fun _ _ _ _ _ _ us hl => match us, hl with | [_, _, _], _ => rfl⟩
  have K_law_firsts := k_law_firsts (P := P) (W := W) (base := base) (C := CC K) T c_law_let F_law_firsts
  have c_law_firsts : Cal P W K mg base (CC K) ("_law_firsts" : Str) 5 5 f_law_firsts := ⟨He.ga K ("_law_firsts" : Str), fd_law_firsts, _, g_law_firsts, F_law_firsts.kp, K_law_firsts, FunD.bindsN (ps := [("_law_crowd_here" : Str), ("_law_owners_here" : Str), ("_law_start" : Str), ("_law_behind_of" : Str), ("_law_beats_of" : Str)]) F_law_firsts fun _ _ _ _ _ _ us hl => match us, hl with | [_, _, _, _, _], _ => rfl⟩
  have K_law_dumb := k_law_dumb (P := P) (W := W) (base := base) (C := CC K) T c_law_let F_law_dumb
  have c_law_dumb : Cal P W K mg base (CC K) ("_law_dumb" : Str) 5 4 f_law_dumb := ⟨He.ga K ("_law_dumb" : Str), fd_law_dumb, _, g_law_dumb, F_law_dumb.kp, K_law_dumb, FunD.bindsN (ps := [("_law_crowd_here" : Str), ("_law_owners_here" : Str), ("_law_dumb_one" : Str), ("_law_size_here" : Str)]) F_law_dumb fun _ _ _ _ _ _ us hl => match us, hl with | [_, _, _, _], _ => rfl⟩
  have K_best_begin := k_best_begin (P := P) (W := W) (base := base) (C := CC K) T c_look_crowd c_look_one c_look_folk c_round_of c_spread F_best_begin
  have c_best_begin : Cal P W K mg base (CC K) ("best_begin" : Str) 6 3 f_best_begin := ⟨He.ga K ("best_begin" : Str), fd_best_begin, _, g_best_begin, F_best_begin.kp, K_best_begin, FunD.bindsN (ps := [("crowd" : Str), ("holders" : Str), ("goal" : Str)]) F_best_begin fun _ _ _ _ _ _ us hl => match us, hl with | [_, _, _], _ => rfl⟩
  have K_keepers := k_keepers (P := P) (W := W) (base := base) (C := CC K) T c_look_crowd c_look_one c_look_folk c_closed c_silent F_keepers
  have c_keepers : Cal P W K mg base (CC K) ("keepers" : Str) 6 3 f_keepers := ⟨He.ga K ("keepers" : Str), fd_keepers, _, g_keepers, F_keepers.kp, K_keepers, FunD.bindsN (ps := [("crowd" : Str), ("holders" : Str), ("goal" : Str)]) F_keepers fun _ _ _ _ _ _ us hl => match us, hl with | [_, _, _], _ => rfl⟩
  have K_law_told := k_law_told (P := P) (W := W) (base := base) (C := CC K) T c_best_begin c_keepers c_law_refusal F_law_told
  have c_law_told : Cal P W K mg base (CC K) ("_law_told" : Str) 7 4 f_law_told := ⟨He.ga K ("_law_told" : Str), fd_law_told, _, g_law_told, F_law_told.kp, K_law_told, FunD.bindsN (ps := [("_law_sort_of" : Str), ("_law_crowd_here" : Str), ("_law_owners_here" : Str), ("_law_goal_of" : Str)]) F_law_told fun _ _ _ _ _ _ us hl => match us, hl with | [_, _, _, _], _ => rfl⟩
  have K_law := k_law (P := P) (W := W) (base := base) (C := CC K) T c_law_town c_law_draw c_law_crowd c_law_size c_law_firsts c_law_owners c_law_home c_law_told c_law_dumb F_law
  exact K_law
theorem holds_of (main : ∀ ns : List Int, ns.length ≤ 63 → ∃ S', f_law [.kls ns] [] = R.ok (.bl true) S') : PySem.Challenge.rw_hushways_k05_whole_begins.Holds := by
  w_on; o_law
  refine HandSHeadRun.head_any (r := Rw) (q := PySem.W.view Rw.prog [52]) (H := hk) (ob := ob) (M := 8000) (loose := names) (d := HandSHeadRun.topDef Rw.prog 52) (kwd := []) ob_eq
    (by kernel_rfl) (fun s => by kernel_rfl) run (by kernel_rfl) (by kernel_rfl) (by kernel_rfl) (by rfl) (by first | assumption | decide +kernel) (by decide +kernel) ⟨rfl, rfl, rfl, rfl, rfl, by decide +kernel⟩ ?hw ?hc
  case hw => w_witness2
  case hc =>
    refine walk_ofW (l := PySem.Challenge.rw_hushways_k05_whole_begins) (n := 63) (k := 8) (x := "_law_script") (CX := fun w => L2.CX (PySem.Challenge.rw_hushways_k05_whole_begins).prog w) rfl (by decide) (by kernel_rfl) ⟨rfl, by decide, by decide⟩ ?F (fun _ _ _ _ _ z => cx_false z)
    intro w mg fa h Y G hmg0
    obtain ⟨K, KX, c, ce⟩ := Y
    have hmg : mg ("law" : PySem.Str) = some (.ref fa) := by
      have e : (HandSHeadRun.topDef Rw.prog 52).name = ("law" : PySem.Str) := by kernel_rfl
      rw [← e]
      exact hmg0
    obtain ⟨fd, hb, hF⟩ := facts (P := (PySem.Challenge.rw_hushways_k05_whole_begins).prog) (W := w) KX G hmg c ce
    exact ⟨K, fd, spF K (CC K) f_law 1, KX, hb, fun H a ns hl hO hS => law_sp main H a ns hl hO hS, hF⟩
end G05

set_option maxRecDepth 100000
set_option maxHeartbeats 4000000
namespace K05
open PySem Hw Pg M01 Sv N0
variable {c : Cw} {H : List Int}
theorem ne_L (l m : List Int) : pNeK (eL l) (eL m) = some (.bl (!decide (l = m))) := by
  have h1 : ∀ l : List Int, PV.sh (eL l) 16 = true := fun l => sh_ints l 15
  have h2 : (eL l).eq (eL m) = decide (l = m) := eqL_ints l m
  show (if (eL l).sh 16 && (eL m).sh 16 then some (PV.bl (!(eL l).eq (eL m))) else none) = _
  rw [h1, h1, h2]
  rfl
theorem ne_none : pNeK (.str "none") (.str "none") = some (.bl false) := by
  simp [pNeK, pNe, PV.sh, PV.eq]
  decide
theorem ev_home {S : Sto} (hT : TownR [] S) {count : Nat} (h0 : 1 ≤ count) (h1 : count ≤ 8) (H : List Int) : ∃ g S', f_law_home [.ptr 1, .int (count : Int), eI H] S = .ok (.int g) S' ∧ 0 ≤ g ∧ g < count ∧ TownR [] S' := by
  have hr := r1_ok (d := eVar 1) (env := [.v (.ptr 1), .v (.int (count : Int)), .v (eI H), .un, .un]) (S := S) (j := (count : Int)) (by simp) (by omega) (by omega)
  rw [show ((count : Int)).toNat = count by omega] at hr
  have hl := elc (it := iR1 (eVar 1)) (vs := [4]) (g := tgN 4) (c := eP2 pNotInX (pN 4) (pN 2)) (e := eVar 4) (env := [.v (.ptr 1), .v (.int (count : Int)), .v (eI H), .un, .un]) (env0 := [.v (.ptr 1), .v (.int (count : Int)), .v (eI H), .un, .un]) (S := S) (List.range count) eK (fun k => !decide ((k : Int) ∈ H)) (fun k : Nat => .int (k : Int))
    hr rfl (by simp; omega) (fun k hk => ⟨[.v (.ptr 1), .v (.int (count : Int)), .v (eI H), .un, .v (.int (k : Int))], by simp [eK], by simp [show pNotInX (.int (k : Int)) (eI H) = _ from notin_T (k : Int) H], fun _ => by simp⟩)
  obtain ⟨os, hos, hol⟩ : ∃ os : List Int, (((List.range count).filter fun k : Nat => !decide ((k : Int) ∈ H)).map fun k : Nat => PV.int (k : Int)) = os.map .int ∧ (os.length ≤ 8 ∧ ∀ x ∈ os, 0 ≤ x ∧ x < count) := by
    refine ⟨((List.range count).filter fun k : Nat => !decide ((k : Int) ∈ H)).map fun k : Nat => (k : Int), by rw [List.map_map]; rfl, ?_, fun x hx => ?_⟩
    · rw [List.length_map]
      have := List.length_filter_le (fun k : Nat => !decide ((k : Int) ∈ H)) (List.range count)
      rw [List.length_range] at this; omega
    · obtain ⟨k, hk, rfl⟩ := List.mem_map.mp hx
      have := List.mem_range.mp (List.mem_filter.mp hk).1
      omega
  rw [hos] at hl
  obtain ⟨ol, om⟩ := hol
  obtain ⟨d, S1, e1, T1, d0, d1⟩ := draw_ok hT (n := (count : Int)) (by omega) (by omega)
  have a1 : pAdd (.lst (os.map .int)) (.lst (os.map .int)) = some (.lst ((os ++ os).map .int)) := by rw [add_ll (by simp only [List.length_map]; omega), List.map_append]
  have a2 : pAdd (.lst ((os ++ os).map .int)) (.lst (os.map .int)) = some (.lst ((os ++ os ++ os).map .int)) := by rw [add_ll (by simp only [List.length_map, List.length_append]; omega), ← List.map_append]
  have a3 : pAdd (.lst ((os ++ os ++ os).map .int)) (.lst [.int d]) = some (.lst ((os ++ os ++ os ++ [d]).map .int)) := by rw [add_ll (by simp only [List.length_map, List.length_append, List.length_cons, List.length_nil]; omega), show [PV.int d] = [d].map .int from rfl, ← List.map_append]
  obtain ⟨x, S2, e2, hx, T2⟩ := pick_ok T1 ((os ++ os ++ os ++ [d]).map .int) (by simp) (by simp only [List.length_map, List.length_append, List.length_cons, List.length_nil]; omega) (by intro x hx; obtain ⟨y, _, rfl⟩ := List.mem_map.mp hx; rfl)
  obtain ⟨g, hg, rfl⟩ := List.mem_map.mp hx
  have hgr : 0 ≤ g ∧ g < count := by
    simp only [List.mem_append, List.mem_singleton] at hg
    rcases hg with ((hg | hg) | hg) | rfl
    · exact om g hg
    · exact om g hg
    · exact om g hg
    · exact ⟨d0, d1⟩
  refine ⟨g, S2, ?_, hgr.1, hgr.2, T2⟩
  rw [f_law_home, run_s]
  change fin _ (d_law_home [.v (.ptr 1), .v (.int (count : Int)), .v (eI H), .un, .un] S) = _
  generalize os.map PV.int = X1 at hl a1 a2
  generalize (os ++ os).map PV.int = X2 at a1 a2
  generalize (os ++ os ++ os).map PV.int = X3 at a2 a3
  generalize (os ++ os ++ os ++ [d]).map PV.int = X4 at a3 e2
  simp [d_law_home, ↓hl, a1, a2, e1, a3, e2, fin_L (TownR.len hT T2)]
theorem ev_told0 (S : Sto) (h : c.G) (hH : Fk c.n H) {g : Int} (g0 : 0 ≤ g) (g1 : g < c.n) : G05.f_law_told [.int 0, eW c, eI H, .int g] S = .ok (if best c H g = none then .str "none" else eB (best c H g)) S := by
  have hb := ev_best_begin S h hH g0 g1
  rw [G05.f_law_told, run_s]
  change fin _ (G05.d_law_told [.v (.int 0), .v (eW c), .v (eI H), .v (.int g), .un, .un, .un] S) = _
  by_cases q : best c H g = none
  · rw [if_pos q] at hb ⊢
    simp [G05.d_law_told, hb, ev_refusal, nmK]
  · rw [if_neg q] at hb ⊢
    simp [G05.d_law_told, hb]
open Classical in
theorem ev_told1 (S : Sto) (h : c.G) (hH : Fk c.n H) {g : Int} (g0 : 0 ≤ g) (g1 : g < c.n) : G05.f_law_told [.int 1, eW c, eI H, .int g] S = .ok (if best c H g = none then .str "none" else eL (kps c H g)) S := by
  have hb := ev_keepers S h hH g0 g1
  have hbn := best_none h hH (g := g)
  rw [G05.f_law_told, run_s]
  change fin _ (G05.d_law_told [.v (.int 1), .v (eW c), .v (eI H), .v (.int g), .un, .un, .un] S) = _
  by_cases q : best c H g = none
  · rw [if_neg (hbn.mp q)] at hb
    rw [if_pos q]
    simp [G05.d_law_told, hb, ev_refusal, nmK]
  · have : g ∈ rch c H := by
      cases Classical.em (g ∈ rch c H) with
      | inl z => exact z
      | inr z => exact absurd (hbn.mpr z) q
    rw [if_pos this] at hb
    rw [if_neg q]
    have isn : pIs .non .non = some (.bl true) := rfl
    simp [G05.d_law_told, hb]
theorem kps_own {g : Int} (hg : g ∈ H) : kps c H g = [] := by
  unfold kps
  have : (List.range c.n).filter (kpB c H g) = [] := by
    rw [List.filter_eq_nil_iff]
    intro k _
    unfold kpB
    simp [GR.base (c := c) (ok := okd (k : Int)) hg]
  rw [this]; rfl
theorem main (ns : List Int) (hn : ns.length ≤ 63) : ∃ S', G05.f_law [.kls ns] [] = R.ok (.bl true) S' := by
  classical
  obtain ⟨S1, e1, T1⟩ := ev_town ns
  obtain ⟨r1, S2, e2, T2, r10, r11⟩ := draw_ok T1 (n := 4) (by omega) (by omega)
  obtain ⟨count, hcount⟩ : ∃ count : Nat, 3 + r1 = (count : Int) := ⟨(3 + r1).toNat, by omega⟩
  obtain ⟨reach, rows, bar, S3, e3, T3, hg, hc⟩ := ev_crowd T2 (count := count) (by omega) (by omega) (long := 3) (by omega) (by omega)
  generalize hcw : (⟨reach, rows, bar⟩ : Cw) = c
  have hcn : c.n = count := by rw [← hcw]; exact hc
  have hG : c.G := by rw [← hcw]; exact hg
  have e3' : f_law_crowd [.ptr 1, .int (count : Int), .int 3] S2 = .ok (eW c) S3 := by rw [e3, ← hcw]
  obtain ⟨H, S4, e4', hF, T4⟩ := ev_owners T3 (n := count) (by omega) (by omega)
  have e5 : f_law_size [.lst [eW c]] S4 = .ok (.int (c.size : Int)) S4 := ev_law_size S4 hG
  have hz := size_ok hG
  have hn8 := G_n hG
  have hFc : Fk c.n H := by rw [hcn]; exact hF
  obtain ⟨g, S5, e6, g0, g1, T5⟩ := ev_home T4 (count := count) (by omega) (by omega) H
  have g1 : g < c.n := by omega
  obtain ⟨N, hN⟩ : ∃ N : Nat, N = c.size * (c.n + 1) := ⟨_, rfl⟩
  have hbt : (c.size : Int) * ((count : Int) + 1) = (N : Int) := by rw [hN, hcn]; push_cast; rfl
  have hsz2 : c.size * (c.n + 1) ≤ 60 * 9 := Nat.mul_le_mul hz.2 (by omega)
  have hm1 : pMul (.int (c.size : Int)) (.int ((count : Int) + 1)) = some (.int (N : Int)) := by rw [← hbt]; exact mul_w (by omega)
  -- the best beginning
  have hrs := r1_ok (d := eVar 5) (env := [.v (.kls ns), .v (.ptr 1), .v (.int count), .v (eW c), .v (eI H), .v (.int c.size), .v (.int g), .v .non, .un, .un, .un, .un, .un]) (S := S5) (j := (c.size : Int)) (by simp) (by omega) (by omega)
  rw [show ((c.size : Int)).toNat = c.size by omega] at hrs
  obtain ⟨env', h1, x8, x12, n8, n12, rfl⟩ := for_st (g := tgN 8) (S := S5) (body := (sSeq (sPut (tgN 12) (eGet1 (pA (eCall f_law_firsts (esCons (eVar 3) (esCons (eVar 4) (esCons (eVar 8) (esCons (eTup (esNil)) (esCons (eP2 pMul (pN 5) (pA (eP2 pAdd (pN 2) (pA (eC (.int 1)))))) (esNil)))))))) (eVar 6))) (sSeq (sIf (eAnd (eP2 pIsNot (pN 12) (pA (eC .non))) (eOr (eP2 pIs (pN 7) (pA (eC .non))) (eP2 pLt (pA (eP2 pSub (pN 12) (pN 8))) (pA (eP2 pIdx (pN 7) (pA (eC (.int 1)))))))) (sSeq (sPut (tgN 7) (eTup (esCons (eVar 8) (esCons (eP2 pSub (pN 12) (pN 8)) (esNil))))) (sNil)) (sNil)) (sNil)))) eK
    (fun o env => ∃ x8 x12, nlk x8 ∧ nlk x12 ∧ env = [.v (.kls ns), .v (.ptr 1), .v (.int count), .v (eW c), .v (eI H), .v (.int c.size), .v (.int g), .v (eB o), x8, .un, .un, .un, x12]) (bs1 c H g) (List.range c.size) none [.v (.kls ns), .v (.ptr 1), .v (.int count), .v (eW c), .v (eI H), .v (.int c.size), .v (.int g), .v .non, .un, .un, .un, .un, .un]
    (fun k hk o env => by
      rintro ⟨x8, x12, n8, n12, rfl⟩
      have hk := List.mem_range.mp hk
      obtain ⟨s, ef, hr⟩ := ev_firsts0 (b := (k : Int)) S5 hG hFc N (by omega) (by omega)
      have hfp : FP c [] H (k : Int) N := by
        have := fp_all (c := c) (late := []) (H := H) (b := (k : Int)) hG hFc (i0 := 0) settled_nil
        rw [Nat.zero_add, ← hN] at this
        exact this
      have hg := rel_end hr hfp
      refine ⟨[.v (.kls ns), .v (.ptr 1), .v (.int count), .v (eW c), .v (eI H), .v (.int c.size), .v (.int g), .v (eB o), .v (.int (k : Int)), .un, .un, .un, x12], [.v (.kls ns), .v (.ptr 1), .v (.int count), .v (eW c), .v (eI H), .v (.int c.size), .v (.int g), .v (eB (bs1 c H g o k)), .v (.int (k : Int)), .un, .un, .un, .v (eO (ear c [] H (k : Int) g))], by simp [eK, setS_nlk n8], ?_, _, _, by simp [nlk], by simp [nlk], rfl⟩
      unfold bs1
      cases hv : ear c [] H (k : Int) g with
      | none => simp [hm1, ef, getD_eO, hg, hv, setS_nlk n12, isnt_eO]
      | some v =>
        have eo : eO (some v) = .int v := rfl
        cases o with
        | none => simp [hm1, ef, getD_eO, hg, hv, setS_nlk n12, isnt_eO, eo]; rfl
        | some p =>
          have eb : eB (some p) = ePr p := rfl
          by_cases q : v - (k : Int) < p.2
          · simp [hm1, ef, getD_eO, hg, hv, setS_nlk n12, isnt_eO, eo, eb, q]; rfl
          · simp [hm1, ef, getD_eO, hg, hv, setS_nlk n12, isnt_eO, eo, eb, q])
    ⟨.un, .un, by simp [nlk], by simp [nlk], rfl⟩
  rw [show (List.range c.size).foldl (bs1 c H g) none = best c H g from rfl] at h1
  have ht0 := ev_told0 S5 hG hFc g0 g1
  have ht1 := ev_told1 S5 hG hFc g0 g1
  -- those without whom it never can
  have hrc := r1_ok (d := eVar 2) (env := [.v (.kls ns), .v (.ptr 1), .v (.int count), .v (eW c), .v (eI H), .v (.int c.size), .v (.int g), .v (eB (best c H g)), x8, .own (.lst []), .un, .un, x12]) (S := S5) (j := (count : Int)) (by simp) (by omega) (by omega)
  rw [show ((count : Int)).toNat = count by omega] at hrc
  obtain ⟨env', h2, x10, n10, rfl⟩ := for_pre (g := tgN 10) (S := S5) (body := (sSeq (sIf (eAnd (eP2 pNotInX (pN 10) (pN 4)) (eAnd (eP2 pNeK (pN 10) (pN 6)) (eP2 pNotInX (pN 6) (pA (eCall f_law_dumb (esCons (eVar 3) (esCons (eVar 4) (esCons (eVar 10) (esCons (eVar 5) (esNil)))))))))) (sSeq (sApp 9 (eVar 10)) (sNil)) (sNil)) (sNil))) eK
    (fun p env => ∃ x10, nlk x10 ∧ env = [.v (.kls ns), .v (.ptr 1), .v (.int count), .v (eW c), .v (eI H), .v (.int c.size), .v (.int g), .v (eB (best c H g)), x8, .own (.lst ((p.filter (kpB c H g)).map fun k : Nat => .int (k : Int))), x10, .un, x12]) (List.range count) [] [.v (.kls ns), .v (.ptr 1), .v (.int count), .v (eW c), .v (eI H), .v (.int c.size), .v (.int g), .v (eB (best c H g)), x8, .own (.lst []), .un, .un, x12]
    (fun k p q env e => by
      rintro ⟨x4, n4, rfl⟩
      obtain ⟨ek, hk⟩ := range_at (show List.range count = p ++ k :: q from e)
      obtain ⟨F, ef, hF⟩ := ev_dumb S5 hG hFc (k : Int)
      have hnf := notin_F (hF g)
      have pll : plOf (eL F) = .val (eL F) := rfl
      have hkh : pNotInX (.int (k : Int)) (eI H) = some (.bl (!decide ((k : Int) ∈ H))) := notin_T _ _
      have hpl : ((p.filter (kpB c H g)).map fun k : Nat => PV.int (k : Int)).length ≤ 1000000 := by
        rw [List.length_map]; have := List.length_filter_le (kpB c H g) p; omega
      refine ⟨[.v (.kls ns), .v (.ptr 1), .v (.int count), .v (eW c), .v (eI H), .v (.int c.size), .v (.int g), .v (eB (best c H g)), x8, .own (.lst ((p.filter (kpB c H g)).map fun k : Nat => .int (k : Int))), .v (.int (k : Int)), .un, x12], [.v (.kls ns), .v (.ptr 1), .v (.int count), .v (eW c), .v (eI H), .v (.int c.size), .v (.int g), .v (eB (best c H g)), x8, .own (.lst (((p ++ [k]).filter (kpB c H g)).map fun k : Nat => .int (k : Int))), .v (.int (k : Int)), .un, x12], by simp [eK, setS_nlk n4], ?_, _, by simp [nlk], rfl⟩
      rw [List.filter_append, List.map_append]
      generalize (p.filter (kpB c H g)).map (fun k : Nat => PV.int (k : Int)) = ys at hpl
      by_cases a1 : (k : Int) ∈ H
      · have : kpB c H g k = false := by unfold kpB; simp [a1]
        simp [hkh, a1, this]
      · by_cases a2 : (k : Int) = g
        · have : kpB c H g k = false := by unfold kpB; simp [a2]
          subst a2
          simp [hkh, a1, this]
        · by_cases a3 : GR c (okd (k : Int)) H g
          · have : kpB c H g k = false := by unfold kpB; simp [a3]
            simp [hkh, a1, a2, ef, pll, hnf, a3, this]
          · have : kpB c H g k = true := by unfold kpB; simp [a1, a2, a3]
            simp [hkh, a1, a2, ef, pll, hnf, a3, this, hpl])
    ⟨.un, by simp [nlk], rfl⟩
  have hks : (((List.range count).filter (kpB c H g)).map fun k : Nat => PV.int (k : Int)) = (kps c H g).map .int := by unfold kps; rw [List.map_map, hcn]; rfl
  simp only [List.nil_append, hks] at h2
  have hgh : pNotInX (.int g) (eI H) = some (.bl (!decide (g ∈ H))) := notin_T _ _
  have toLk : ∀ (l : List Int) i env S, toL (some (.own (.lst (l.map .int)))) i env S = .nx (env.set i (.v (eL l))) S := fun _ _ _ _ => rfl
  refine ⟨[], ?_⟩
  rw [G05.f_law, run_s]
  change fin _ (G05.d_law [.v (.kls ns), .un, .un, .un, .un, .un, .un, .un, .un, .un, .un, .un, .un] []) = _
  by_cases hb : best c H g = none
  · rw [if_pos hb] at ht0 ht1
    rw [hb] at h1 h2 hrc
    have ebn : eB none = .non := rfl
    rw [ebn] at h1 h2 hrc
    simp [G05.d_law, e1, e2, hcount, e3', e4', e5, e6, ↓hrs, h1, ht0, ne_none, ↓hrc, h2, ht1, toLk, fin_law]
  · rw [if_neg hb] at ht0 ht1
    obtain ⟨p, hp⟩ : ∃ p, best c H g = some p := Option.ne_none_iff_exists'.mp hb
    rw [hp] at h1 h2 hrc ht0
    have ebs : eB (some p) = ePr p := rfl
    rw [ebs] at h1 h2 hrc ht0
    have hnp : pNeK (ePr p) (ePr p) = some (.bl false) := by
      have := ne_T [p.1, p.2] [p.1, p.2]
      simp only [decide_true, Bool.not_true] at this
      exact this
    have hnl := ne_L (kps c H g) (kps c H g)
    simp only [decide_true, Bool.not_true] at hnl
    by_cases hgH : g ∈ H
    · have hp0 := best_own hG hgH (c := c)
      rw [hp] at hp0
      cases hp0
      rw [kps_own hgH] at h2 ht1 hnl
      have q1 : pEq (ePr (0, 0)) (.tup [.int 0, .int 0]) = some (.bl true) := eq_T [0, 0] [0, 0]
      have q2 : pEq (eL []) (.lst []) = some (.bl true) := eq_L [] []
      simp only [List.map_nil] at h2
      have toL0 : ∀ i env S, toL (some (.own (.lst []))) i env S = .nx (env.set i (.v (eL []))) S := fun _ _ _ => rfl
      simp [G05.d_law, e1, e2, hcount, e3', e4', e5, e6, ↓hrs, h1, ht0, hnp, ↓hrc, h2, ht1, toL0, -toL_own, hnl, hgh, hgH, q1, q2, fin_law]
    · simp [G05.d_law, e1, e2, hcount, e3', e4', e5, e6, ↓hrs, h1, ht0, hnp, ↓hrc, h2, ht1, toLk, -toL_own, hnl, hgh, hgH, fin_law]
end K05

theorem PySem.Challenge.cw_hushways_k05_whole_begins_holds : PySem.Challenge.rw_hushways_k05_whole_begins.Holds := by
  exact G05.holds_of K05.main
