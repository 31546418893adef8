import PyProof.Rows.All
import Wide.All
import OpenK.AllK
import Wide.FinOn
import HandS.ForMost
import HandS.ForExc
import HandS.CallSlots
import HandS.Defaults
import HandS.TupAny
import HandS.TupMul
import HandS.IsInst
import HandS.Strs
import HandS.TupLe
import HandS.Conv
import HandS.Style
import HandS.Deep
import KE.KStateDown
import HandS.Ends
import HandS.Head0
import HandS.Head1
import HandS.Head2
import HandS.HeadEnd
import HandS.HeadHook1
import HandS.HeadHook2
import HandS.WordsExc
import PySem.Challenge.RW_hushways_k01_whole_hearing
set_option Elab.async false
set_option linter.all false
set_option maxRecDepth 100000
set_option maxHeartbeats 4000000
/-! Plain values, plain runs, and what they say of the layer's readings. -/
namespace Hw
open PySem PySem.Spec L2

/-- the kinds of refusals -/
inductive Kx where
  | crowd | folk | beat | row | notes | paper | text | none
  deriving DecidableEq

/-- plain values -/
inductive PV where
  | non | bl (b : Bool) | int (i : Int) | str (x : Str)
  | tup (xs : List PV) | lst (xs : List PV)
  | dI (kvs : List (Int × PV)) | dT (kvs : List (List Int × PV))
  | exc (c : Kx) | ptr (n : Nat) | kls (ns : List Int)

/-- how an evaluation ends -/
inductive R (α : Type) where
  | ok (a : α) (S : List PV)
  | ex (c : Kx) (S : List PV)
  | bad

inductive SV where
  | un | v (x : PV) | own (x : PV) | lk (x : PV)

abbrev Sto := List PV
abbrev En := List SV
abbrev Ex := En → Sto → R PV
abbrev Exs := En → Sto → R (List PV)

inductive RS where
  | nx (env : En) (S : Sto)
  | rt (v : PV) (S : Sto)
  | bk (env : En) (S : Sto)
  | ct (env : En) (S : Sto)
  | ex (c : Kx) (env : En) (S : Sto)
  | bad
abbrev Sm := En → Sto → RS

/-! ### plain values on a heap -/
/-- what an exception's object is, for us -/
def excH (C : Kx → Addr) (a : Addr) (c : Kx) : HO := .ext fun h => ∃ o, h.get? a = some o ∧ o.cls = .ref (C c)

mutual
inductive Rep (K : PySem.W.Frag) (C : Kx → Addr) (F : Hp) (ρ : List Addr) : V → PV → Prop
  | non : Rep K C F ρ .non .non
  | bl (b : Bool) : Rep K C F ρ (.bl b) (.bl b)
  | int (i : Int) : Rep K C F ρ (.int i) (.int i)
  | str (x : Str) : Rep K C F ρ (.str x) (.str x)
  | tup {a : Addr} {vs : List V} {xs : List PV} : SqT K F a vs → RepL K C F ρ vs xs → Rep K C F ρ (.ref a) (.tup xs)
  | lst {a : Addr} {vs : List V} {xs : List PV} : Rd F a (.lst vs) → RepL K C F ρ vs xs → Rep K C F ρ (.ref a) (.lst xs)
  | dI {a : Addr} {o : Obj} {kv : List (Key × V)} {kvs : List (Int × PV)} : F a = some (.frz o (.dK kv)) → RepI K C F ρ kv kvs → Rep K C F ρ (.ref a) (.dI kvs)
  | dT {a : Addr} {o : Obj} {kv : List (List Key × V)} {kvs : List (List Int × PV)} : F a = some (.frz o (.dT kv)) → RepT K C F ρ kv kvs → Rep K C F ρ (.ref a) (.dT kvs)
  | exc {a : Addr} {c : Kx} : F a = some (excH C a c) → Rep K C F ρ (.ref a) (.exc c)
  | ptr {a : Addr} {n : Nat} : ρ[n]? = some a → Rep K C F ρ (.ref a) (.ptr n)
  | kls {a : Addr} {ns : List Int} : SqL K F a (ns.map V.int) → Rep K C F ρ (.ref a) (.kls ns)
inductive RepL (K : PySem.W.Frag) (C : Kx → Addr) (F : Hp) (ρ : List Addr) : List V → List PV → Prop
  | nil : RepL K C F ρ [] []
  | cons {v : V} {vs : List V} {x : PV} {xs : List PV} : Rep K C F ρ v x → RepL K C F ρ vs xs → RepL K C F ρ (v :: vs) (x :: xs)
inductive RepI (K : PySem.W.Frag) (C : Kx → Addr) (F : Hp) (ρ : List Addr) : List (Key × V) → List (Int × PV) → Prop
  | nil : RepI K C F ρ [] []
  | cons {k : Int} {v : V} {r : List (Key × V)} {x : PV} {s : List (Int × PV)} : Rep K C F ρ v x → RepI K C F ρ r s → RepI K C F ρ ((Sum.inl k, v) :: r) ((k, x) :: s)
inductive RepT (K : PySem.W.Frag) (C : Kx → Addr) (F : Hp) (ρ : List Addr) : List (List Key × V) → List (List Int × PV) → Prop
  | nil : RepT K C F ρ [] []
  | cons {k : List Int} {v : V} {r : List (List Key × V)} {x : PV} {s : List (List Int × PV)} : Rep K C F ρ v x → RepT K C F ρ r s → RepT K C F ρ ((k.map Sum.inl, v) :: r) ((k, x) :: s)
end

section
variable {K : PySem.W.Frag} {C : Kx → Addr} {F F' : Hp} {ρ ρ' : List Addr}
def Le (F F' : Hp) : Prop := ∀ a o, F a = some o → F' a = some o
theorem Le.refl (F : Hp) : Le F F := fun _ _ h => h
theorem Le.trans {F F' F'' : Hp} (a : Le F F') (b : Le F' F'') : Le F F'' := fun x o h => b x o (a x o h)
theorem Le.gone {F F' : Hp} (e : Le F F') {a : Addr} (h : F' a = none) : F a = none := by
  cases q : F a with
  | none => rfl
  | some o => rw [e a o q] at h; cases h
theorem Le.put {F : Hp} {p : Addr} {o : HO} (h : F p = none) : Le F (upd F p o) := fun a u e => by
  rw [upd_ne (ne_of_none e h)]; exact e
theorem Rd.le {u : HO} {a : Addr} (h : Le F F') (r : Rd F a u) : Rd F' a u := by
  rcases r with r | ⟨o, r⟩
  · exact .inl (h _ _ r)
  · exact .inr ⟨o, h _ _ r⟩
theorem SqL.le {a : Addr} {xs : List V} (h : Le F F') (r : SqL K F a xs) : SqL K F' a xs := r.elim (fun r => .inl (Rd.le h r)) .inr
theorem SqT.le {a : Addr} {xs : List V} (h : Le F F') (r : SqT K F a xs) : SqT K F' a xs := r.elim (fun r => .inl (Rd.le h r)) .inr

mutual
theorem Rep.le (h : Le F F') (hr : ∀ (n : Nat) (a : Addr), ρ[n]? = some a → ρ'[n]? = some a) : ∀ {v : V} {x : PV}, Rep K C F ρ v x → Rep K C F' ρ' v x
  | _, _, .non => .non
  | _, _, .bl b => .bl b
  | _, _, .int i => .int i
  | _, _, .str x => .str x
  | _, _, .tup r s => .tup (SqT.le h r) (RepL.le h hr s)
  | _, _, .lst r s => .lst (Rd.le h r) (RepL.le h hr s)
  | _, _, .dI r s => .dI (h _ _ r) (RepI.le h hr s)
  | _, _, .dT r s => .dT (h _ _ r) (RepT.le h hr s)
  | _, _, .exc r => .exc (h _ _ r)
  | _, _, .ptr r => .ptr (hr _ _ r)
  | _, _, .kls r => .kls (SqL.le h r)
theorem RepL.le (h : Le F F') (hr : ∀ (n : Nat) (a : Addr), ρ[n]? = some a → ρ'[n]? = some a) : ∀ {v : List V} {x : List PV}, RepL K C F ρ v x → RepL K C F' ρ' v x
  | _, _, .nil => .nil
  | _, _, .cons r s => .cons (Rep.le h hr r) (RepL.le h hr s)
theorem RepI.le (h : Le F F') (hr : ∀ (n : Nat) (a : Addr), ρ[n]? = some a → ρ'[n]? = some a) : ∀ {v : List (Key × V)} {x : List (Int × PV)}, RepI K C F ρ v x → RepI K C F' ρ' v x
  | _, _, .nil => .nil
  | _, _, .cons r s => .cons (Rep.le h hr r) (RepI.le h hr s)
theorem RepT.le (h : Le F F') (hr : ∀ (n : Nat) (a : Addr), ρ[n]? = some a → ρ'[n]? = some a) : ∀ {v : List (List Key × V)} {x : List (List Int × PV)}, RepT K C F ρ v x → RepT K C F' ρ' v x
  | _, _, .nil => .nil
  | _, _, .cons r s => .cons (Rep.le h hr r) (RepT.le h hr s)
end
theorem RepL.length : ∀ {vs : List V} {xs : List PV}, RepL K C F ρ vs xs → vs.length = xs.length
  | _, _, .nil => rfl
  | _, _, .cons _ s => by simp [RepL.length s]
theorem RepL.append : ∀ {vs ws : List V} {xs ys : List PV}, RepL K C F ρ vs xs → RepL K C F ρ ws ys → RepL K C F ρ (vs ++ ws) (xs ++ ys)
  | _, _, _, _, .nil, s => s
  | _, _, _, _, .cons r t, s => .cons r (RepL.append t s)
theorem RepL.get : ∀ {vs : List V} {xs : List PV} {i : Nat} {x : PV}, RepL K C F ρ vs xs → xs[i]? = some x → ∃ v, vs[i]? = some v ∧ Rep K C F ρ v x
  | _, _, 0, _, .cons r _, e => by simp at e; subst e; exact ⟨_, rfl, r⟩
  | _, _, i + 1, _, .cons _ t, e => by
    obtain ⟨v, h1, h2⟩ := RepL.get (i := i) t (by simpa using e)
    exact ⟨v, by simpa using h1, h2⟩
  | _, _, _, _, .nil, e => by simp at e
theorem RepL.getV : ∀ {vs : List V} {xs : List PV} {i : Nat} {v : V}, RepL K C F ρ vs xs → vs[i]? = some v → ∃ x, xs[i]? = some x ∧ Rep K C F ρ v x
  | _, _, 0, _, .cons r _, e => by simp at e; subst e; exact ⟨_, rfl, r⟩
  | _, _, i + 1, _, .cons _ t, e => by
    obtain ⟨v, h1, h2⟩ := RepL.getV (i := i) t (by simpa using e)
    exact ⟨v, by simpa using h1, h2⟩
  | _, _, _, _, .nil, e => by simp at e
theorem RepL.set {v : V} {x : PV} (r : Rep K C F ρ v x) : ∀ {vs : List V} {xs : List PV} (i : Nat), RepL K C F ρ vs xs → RepL K C F ρ (vs.set i v) (xs.set i x)
  | _, _, _, .nil => .nil
  | _, _, 0, .cons _ t => .cons r t
  | _, _, i + 1, .cons q t => .cons q (RepL.set r i t)
theorem RepL.take : ∀ {vs : List V} {xs : List PV} (n : Nat), RepL K C F ρ vs xs → RepL K C F ρ (vs.take n) (xs.take n)
  | _, _, 0, _ => by simpa using RepL.nil
  | _, _, _ + 1, .nil => .nil
  | _, _, n + 1, .cons r t => .cons r (RepL.take n t)
theorem RepL.drop : ∀ {vs : List V} {xs : List PV} (n : Nat), RepL K C F ρ vs xs → RepL K C F ρ (vs.drop n) (xs.drop n)
  | _, _, 0, r => by simpa using r
  | _, _, _ + 1, .nil => .nil
  | _, _, n + 1, .cons _ t => RepL.drop n t
theorem RepL.eraseIdx : ∀ {vs : List V} {xs : List PV} (n : Nat), RepL K C F ρ vs xs → RepL K C F ρ (vs.eraseIdx n) (xs.eraseIdx n)
  | _, _, _, .nil => .nil
  | _, _, 0, .cons _ t => t
  | _, _, n + 1, .cons r t => .cons r (RepL.eraseIdx n t)
theorem RepL.reverse : ∀ {vs : List V} {xs : List PV}, RepL K C F ρ vs xs → RepL K C F ρ vs.reverse xs.reverse
  | _, _, .nil => .nil
  | _, _, .cons r t => by
    rw [List.reverse_cons, List.reverse_cons]
    exact (RepL.reverse t).append (.cons r .nil)
theorem RepL.ints : ∀ ns : List Int, RepL K C F ρ (ns.map V.int) (ns.map PV.int)
  | [] => .nil
  | n :: ns => .cons (.int n) (RepL.ints ns)
theorem RepL.ints_inv : ∀ {vs : List V} {ns : List Int}, RepL K C F ρ vs (ns.map PV.int) → vs = ns.map V.int
  | _, [], r => by cases r; rfl
  | _, n :: ns, r => by
    cases r with
    | cons a b => cases a; rw [RepL.ints_inv b]; rfl
theorem RepL.bls_inv : ∀ {vs : List V} {ns : List Bool}, RepL K C F ρ vs (ns.map PV.bl) → vs = ns.map V.bl
  | _, [], r => by cases r; rfl
  | _, n :: ns, r => by
    cases r with
    | cons a b => cases a; rw [RepL.bls_inv b]; rfl
end

/-! ### the state -/
/-- F: what never changes again; B: what is others' (or locked) and not touched here; ρ: where the store's cells stand; L: the slots that are locked -/
structure Wd where
  F : Hp
  B : Hp
  ρ : List Addr
  L : Nat → Option Addr
structure Wd.le (w w' : Wd) : Prop where
  f : Le w.F w'.F
  b : w'.B = w.B
  l : w'.L = w.L
  r : ∃ more, w'.ρ = w.ρ ++ more
theorem Wd.le.refl (w : Wd) : w.le w := ⟨Le.refl _, rfl, rfl, [], by simp⟩
theorem Wd.le.trans {w w' w'' : Wd} (a : w.le w') (b : w'.le w'') : w.le w'' := by
  obtain ⟨a1, a2, a4, m, a3⟩ := a
  obtain ⟨b1, b2, b4, n, b3⟩ := b
  exact ⟨a1.trans b1, b2.trans a2, b4.trans a4, m ++ n, by rw [b3, a3, List.append_assoc]⟩
theorem Wd.le.get {w w' : Wd} (a : w.le w') {n : Nat} {x : Addr} (h : w.ρ[n]? = some x) : w'.ρ[n]? = some x := by
  obtain ⟨m, e⟩ := a.r
  rw [e, List.getElem?_append_left (List.getElem?_eq_some_iff.mp h).1]
  exact h
/-- only F grew -/
theorem Wd.le.ff {w : Wd} {F' : Hp} (h : Le w.F F') : w.le { w with F := F' } := ⟨h, rfl, rfl, [], by simp⟩
/-- free for changes of our own -/
structure Fr1 (w : Wd) (a : Addr) : Prop where
  f : w.F a = none
  b : w.B a = none
  r : a ∉ w.ρ

section
variable (K : PySem.W.Frag) (C : Kx → Addr)
abbrev RepW (w : Wd) : V → PV → Prop := Rep K C w.F w.ρ
abbrev RepLW (w : Wd) : List V → List PV → Prop := RepL K C w.F w.ρ
/-- an object that may change -/
def ObjR (w : Wd) (H : Hp) (a : Addr) : PV → Prop
  | .lst xs => ∃ vs, H a = some (.lst vs) ∧ RepL K C w.F w.ρ vs xs
  | .dI kvs => ∃ kv, H a = some (.dK kv) ∧ RepI K C w.F w.ρ kv kvs
  | .dT kvs => ∃ kv, H a = some (.dT kv) ∧ RepT K C w.F w.ρ kv kvs
  | _ => False
/-- one that is locked for a while -/
def LkR (w : Wd) (H : Hp) (a : Addr) : PV → Prop
  | .lst xs => ∃ vs, H a = some (.lst vs) ∧ RepL K C w.F w.ρ vs xs
  | .dI kvs => ∃ o kv, H a = some (.frz o (.dK kv)) ∧ RepI K C w.F w.ρ kv kvs
  | .dT kvs => ∃ o kv, H a = some (.frz o (.dT kv)) ∧ RepT K C w.F w.ρ kv kvs
  | _ => False
def SlotR (w : Wd) (H : Hp) (i : Nat) (x : Option (Option V)) : SV → Prop
  | .un => True
  | .v y => ∃ u, x = some (some u) ∧ Rep K C w.F w.ρ u y
  | .own y => ∃ a, x = some (some (.ref a)) ∧ Fr1 w a ∧ ObjR K C w H a y
  | .lk y => ∃ a, w.L i = some a ∧ x = some (some (.ref a)) ∧ LkR K C w w.B a y
def SV.mine : SV → Bool
  | .own _ => true
  | _ => false
structure Sim (w : Wd) (env : En) (S : Sto) (σ : St) (H : Hp) : Prop where
  f : Le w.F H
  b : Le w.B H
  fb : ∀ a o, w.B a = some o → w.F a = none ∨ ∃ xs, o = .tup xs
  lb : ∀ i a, w.L i = some a → w.B a ≠ none
  le : env.length ≤ σ.length
  sl : ∀ (i : Nat) (x : SV), env[i]? = some x → SlotR K C w H i σ[i]? x
  od : ∀ (i j : Nat) (x y : SV) (a : Addr), env[i]? = some x → env[j]? = some y → x.mine = true → y.mine = true → σ[i]? = some (some (.ref a)) → σ[j]? = some (some (.ref a)) → i = j
  ln : w.ρ.length = S.length
  nd : w.ρ.Nodup
  cl : ∀ (n : Nat) (c : PV) (a : Addr), S[n]? = some c → w.ρ[n]? = some a → w.F a = none ∧ w.B a = none ∧ ObjR K C w H a c
end

section
variable {K : PySem.W.Frag} {C : Kx → Addr} {w w' : Wd} {env : En} {S S' : Sto} {σ : St} {H H' : Hp}
theorem RepW.up (h : w.le w') {v : V} {x : PV} (r : RepW K C w v x) : RepW K C w' v x := Rep.le h.f (fun _ _ e => h.get e) r
theorem RepLW.up (h : w.le w') {v : List V} {x : List PV} (r : RepLW K C w v x) : RepLW K C w' v x := RepL.le h.f (fun _ _ e => h.get e) r
theorem ObjR.up (h : w.le w') {a : Addr} (hh : ∀ o, H a = some o → H' a = some o) {x : PV} (r : ObjR K C w H a x) : ObjR K C w' H' a x := by
  cases x with
  | lst xs => obtain ⟨vs, e, r⟩ := r; exact ⟨vs, hh _ e, RepL.le h.f (fun _ _ e => h.get e) r⟩
  | dI xs => obtain ⟨vs, e, r⟩ := r; exact ⟨vs, hh _ e, RepI.le h.f (fun _ _ e => h.get e) r⟩
  | dT xs => obtain ⟨vs, e, r⟩ := r; exact ⟨vs, hh _ e, RepT.le h.f (fun _ _ e => h.get e) r⟩
  | _ => exact r.elim
theorem LkR.up (h : w.le w') {a : Addr} (hh : ∀ o, H a = some o → H' a = some o) {x : PV} (r : LkR K C w H a x) : LkR K C w' H' a x := by
  cases x with
  | lst xs => obtain ⟨vs, e, r⟩ := r; exact ⟨vs, hh _ e, RepL.le h.f (fun _ _ e => h.get e) r⟩
  | dI xs => obtain ⟨o, vs, e, r⟩ := r; exact ⟨o, vs, hh _ e, RepI.le h.f (fun _ _ e => h.get e) r⟩
  | dT xs => obtain ⟨o, vs, e, r⟩ := r; exact ⟨o, vs, hh _ e, RepT.le h.f (fun _ _ e => h.get e) r⟩
  | _ => exact r.elim
theorem ObjR.there {a : Addr} {x : PV} (r : ObjR K C w H a x) : ∃ o, H a = some o := by
  cases x with
  | lst xs => obtain ⟨vs, e, _⟩ := r; exact ⟨_, e⟩
  | dI xs => obtain ⟨vs, e, _⟩ := r; exact ⟨_, e⟩
  | dT xs => obtain ⟨vs, e, _⟩ := r; exact ⟨_, e⟩
  | _ => exact r.elim
theorem LkR.there {a : Addr} {x : PV} (r : LkR K C w H a x) : ∃ o, H a = some o := by
  cases x with
  | lst xs => obtain ⟨vs, e, _⟩ := r; exact ⟨_, e⟩
  | dI xs => obtain ⟨_, vs, e, _⟩ := r; exact ⟨_, e⟩
  | dT xs => obtain ⟨_, vs, e, _⟩ := r; exact ⟨_, e⟩
  | _ => exact r.elim
/-- new frozen things: F' and H' are larger, what is new in F' is new in H' -/
structure Grow (F H F' H' : Hp) : Prop where
  ff : Le F F'
  hh : Le H H'
  fh : Le F' H'
  nw : ∀ a, F a = none → H a ≠ none → F' a = none ∨ ∃ xs, F' a = some (.tup xs)
theorem Grow.refl {F H : Hp} (h : Le F H) : Grow F H F H := ⟨Le.refl _, Le.refl _, h, fun _ e _ => .inl e⟩
/-- one new frozen object -/
theorem Grow.one {F H : Hp} {p : Addr} {o : HO} (h : Le F H) (hp : H p = none) : Grow F H (upd F p o) (upd H p o) := by
  have hf : F p = none := h.gone hp
  refine ⟨Le.put hf, Le.put hp, fun a u e => ?_, fun a e n => ?_⟩
  · by_cases q : a = p
    · subst q; rw [upd_same] at e ⊢; exact e
    · rw [upd_ne q] at e ⊢; exact h _ _ e
  · by_cases q : a = p
    · subst q; exact absurd hp n
    · rw [upd_ne q]; exact .inl e
/-- H alone grew by one object -/
theorem Grow.loose {F H : Hp} {p : Addr} {o : HO} (h : Le F H) (hp : H p = none) : Grow F H F (upd H p o) :=
  ⟨Le.refl _, Le.put hp, h.trans (Le.put hp), fun _ e _ => .inl e⟩
theorem ObjR.nottup {a : Addr} {x : PV} (r : ObjR K C w H a x) (ys : List V) : H a ≠ some (.tup ys) := by
  intro e
  cases x with
  | lst xs => obtain ⟨vs, e', _⟩ := r; rw [e] at e'; cases e'
  | dI xs => obtain ⟨vs, e', _⟩ := r; rw [e] at e'; cases e'
  | dT xs => obtain ⟨vs, e', _⟩ := r; rw [e] at e'; cases e'
  | _ => exact r.elim
theorem Grow.own {F H F' H' : Hp} (g : Grow F H F' H') {a : Addr} {x : PV} (r : ObjR K C w H a x) (f : F a = none) : F' a = none := by
  obtain ⟨o, ho⟩ := r.there
  rcases g.nw a f (by rw [ho]; simp) with h | ⟨ys, h⟩
  · exact h
  · have e1 := g.fh _ _ h
    have e2 := g.hh _ _ ho
    rw [e1] at e2; cases e2
    exact absurd ho (r.nottup ys)
theorem Sim.grow (s : Sim K C w env S σ H) {F' H' : Hp} (g : Grow w.F H F' H') : Sim K C { w with F := F' } env S σ H' ∧ w.le { w with F := F' } := by
  have le : w.le { w with F := F' } := Wd.le.ff g.ff
  refine ⟨⟨g.fh, s.b.trans g.hh, fun a o e => ?_, s.lb, s.le, fun i x e => ?_, s.od, s.ln, s.nd, fun n c a e1 e2 => ?_⟩, le⟩
  · rcases s.fb a o e with h | h
    · rcases g.nw a h (by rw [s.b a o e]; simp) with h | ⟨ys, h⟩
      · exact .inl h
      · have e1 := g.fh _ _ h
        have e2 := g.hh _ _ (s.b a o e)
        rw [e1] at e2; cases e2
        exact .inr ⟨ys, rfl⟩
    · exact .inr h
  · have q := s.sl i x e
    cases x with
    | un => trivial
    | v y => obtain ⟨u, h1, h2⟩ := q; exact ⟨u, h1, RepW.up le h2⟩
    | own y =>
      obtain ⟨a, h1, ⟨f1, f2, f3⟩, h2⟩ := q
      exact ⟨a, h1, ⟨g.own h2 f1, f2, f3⟩, h2.up le fun _ => g.hh _ _⟩
    | lk y =>
      obtain ⟨a, h0, h1, h2⟩ := q
      exact ⟨a, h0, h1, h2.up le fun _ e => e⟩
  · obtain ⟨f1, f2, h2⟩ := s.cl n c a e1 e2
    exact ⟨g.own h2 f1, f2, h2.up le fun _ => g.hh _ _⟩
end
end Hw

set_option maxRecDepth 100000
set_option maxHeartbeats 4000000
namespace Hw
open PySem PySem.Spec L2

def R.bind {α β : Type} : R α → (α → Sto → R β) → R β
  | .ok a S, f => f a S
  | .ex c S, _ => .ex c S
  | .bad, _ => .bad
def R.opt {α : Type} : Option α → Sto → R α
  | some a, S => .ok a S
  | none, _ => .bad

section
variable (K : PySem.W.Frag) (C : Kx → Addr) (E : WX)
/-- what is to hold behind an evaluation that ends so -/
def Wp {α : Type} (w : Wd) (env : En) (σ : L2.St) (r : R α) (P : α → Sto → Wd → Hp → Prop) : Prop :=
  match r with
  | .ok v S' => ∀ w' H', w.le w' → Sim K C w' env S' σ H' → P v S' w' H'
  | .ex c S' => ∀ w' H', w.le w' → Sim K C w' env S' σ H' → E (.ref (C c)) none σ H'
  | .bad => False
/-- p stands in none of our own slots -/
def NotMine (env : En) (σ : L2.St) (p : Addr) : Prop := ∀ (i : Nat) (x : SV), env[i]? = some x → x.mine = true → σ[i]? ≠ some (some (.ref p))
/-- a plain evaluation as a reading -/
def rE (d : Ex) : TE := fun σ H Q => ∃ w env S, Sim K C w env S σ H ∧ Wp K C E w env σ (d env S) fun v _ w' H' => ∀ x, Rep K C w'.F w'.ρ x v → Q x H'
def rA (d : Exs) : TA := fun σ H Q => ∃ w env S, Sim K C w env S σ H ∧ Wp K C E w env σ (d env S) fun vs _ w' H' => ∀ xs, RepL K C w'.F w'.ρ xs vs → Q xs H'
/-- .. a test -/
def rT (d : Ex) : TT := fun σ H Q => ∃ w env S, Sim K C w env S σ H ∧ Wp K C E w env σ (d env S) fun v _ w' H' => ∃ b, v = .bl b ∧ Q b H'
/-- .. that makes a new object -/
def rN (d : Ex) : TE := fun σ H Q => ∃ w env S, Sim K C w env S σ H ∧ Wp K C E w env σ (d env S) fun v _ w' H' => ∀ p, Fr1 w' p → NotMine env σ p → ObjR K C w' H' p v → Q (.ref p) H'
end

section
variable {K : PySem.W.Frag} {C : Kx → Addr} {E : WX} {w w' : Wd} {env : En} {S S' : Sto} {σ : L2.St} {H H' : Hp} {α β : Type}
theorem Wp.mono {r : R α} {P P' : α → Sto → Wd → Hp → Prop} (h : Wp K C E w env σ r P) (hp : ∀ v S' w' H', w.le w' → Sim K C w' env S' σ H' → P v S' w' H' → P' v S' w' H') : Wp K C E w env σ r P' := by
  cases r with
  | ok v S' => exact fun w' H' le s => hp v S' w' H' le s (h w' H' le s)
  | ex c S' => exact h
  | bad => exact h
theorem Wp.up {r : R α} {P : α → Sto → Wd → Hp → Prop} (h : Wp K C E w env σ r P) (le : w.le w') : Wp K C E w' env σ r P := by
  cases r with
  | ok v S' => exact fun w'' H' le' s => h w'' H' (le.trans le') s
  | ex c S' => exact fun w'' H' le' s => h w'' H' (le.trans le') s
  | bad => exact h
theorem Wp.bind {r : R α} {f : α → Sto → R β} {P : β → Sto → Wd → Hp → Prop} (h : Wp K C E w env σ (r.bind f) P) : Wp K C E w env σ r fun v S1 w1 H1 => Wp K C E w1 env σ (f v S1) P := by
  cases r with
  | ok v S' => exact fun w' H' le _ => Wp.up (show Wp K C E w env σ (f v S') P from h) le
  | ex c S' => exact h
  | bad => exact h
end
theorem _root_.L2.PE.imp {X : Cx} {e : Expr} {t t' : TE} (h : PE X e t) (hi : ∀ σ H Q, t' σ H Q → t σ H Q) : PE X e t' := ⟨fun pins s σ H Q I q => h.run pins s σ H Q I (hi _ _ _ q)⟩
theorem _root_.L2.PT.imp {X : Cx} {e : Expr} {t t' : TT} (h : PT X e t) (hi : ∀ σ H Q, t' σ H Q → t σ H Q) : PT X e t' := ⟨fun pins s σ H Q I q => h.run pins s σ H Q I (hi _ _ _ q)⟩
theorem _root_.L2.PW.imp {X : Cx} {e : Expr} {t t' : TT} (h : PW X e t) (hi : ∀ σ H Q, t' σ H Q → t σ H Q) : PW X e t' := ⟨fun wh pins s σ H Q I q => h.run wh pins s σ H Q I (hi _ _ _ q)⟩
theorem _root_.L2.PA.imp {X : Cx} {e : List Expr} {t t' : TA} (h : PA X e t) (hi : ∀ σ H Q, t' σ H Q → t σ H Q) : PA X e t' := ⟨fun p pins s σ H Q I q => h.run p pins s σ H Q I (hi _ _ _ q)⟩
theorem _root_.L2.PK.imp {X : Cx} {e : List Keyword} {t t' : TA} (h : PK X e t) (hi : ∀ σ H Q, t' σ H Q → t σ H Q) : PK X e t' := ⟨fun p pins s σ H Q I q => h.run p pins s σ H Q I (hi _ _ _ q)⟩
theorem _root_.L2.PS.imp {X : Cx} {e : Stmt} {t t' : TS} (h : PS X e t) (hi : ∀ D σ H, t' D σ H → t D σ H) : PS X e t' := ⟨fun pins s σ H D I q => h.run pins s σ H D I (hi _ _ _ q)⟩
theorem _root_.L2.PSs.imp {X : Cx} {e : List Stmt} {t t' : TS} (h : PSs X e t) (hi : ∀ D σ H, t' D σ H → t D σ H) : PSs X e t' := ⟨fun pins s σ H D I q => h.run pins s σ H D I (hi _ _ _ q)⟩

/-! ### expressions -/
def eVar (i : Nat) : Ex := fun env S => match env[i]? with | some (.v x) => .ok x S | _ => .bad
def eC (v : PV) : Ex := fun _ S => .ok v S
def eOp1 (f : PV → Option PV) (a : Ex) : Ex := fun env S => (a env S).bind fun u S => .opt (f u) S
def eOp2 (f : PV → PV → Option PV) (a b : Ex) : Ex := fun env S => (a env S).bind fun u S => (b env S).bind fun v S => .opt (f u v) S
def eChain (f g : PV → PV → Option PV) (a b c : Ex) : Ex := fun env S => (a env S).bind fun u S => (b env S).bind fun v S => (R.opt (f u v) S).bind fun z S =>
  match z with | .bl true => (c env S).bind fun t S => .opt (g v t) S | .bl false => .ok (.bl false) S | _ => .bad
def eAnd (a b : Ex) : Ex := fun env S => (a env S).bind fun u S => match u with | .bl true => b env S | .bl false => .ok (.bl false) S | _ => .bad
def eOr (a b : Ex) : Ex := fun env S => (a env S).bind fun u S => match u with | .bl true => .ok (.bl true) S | .bl false => b env S | _ => .bad
def eNot (a : Ex) : Ex := fun env S => (a env S).bind fun u S => match u with | .bl b => .ok (.bl (!b)) S | _ => .bad
def eIf (c a b : Ex) : Ex := fun env S => (c env S).bind fun u S => match u with | .bl true => a env S | .bl false => b env S | _ => .bad
def esNil : Exs := fun _ S => .ok [] S
def esCons (a : Ex) (r : Exs) : Exs := fun env S => (a env S).bind fun u S => (r env S).bind fun us S => .ok (u :: us) S
def eTup (a : Exs) : Ex := fun env S => (a env S).bind fun us S => if us.length ≤ 1000 then .ok (.tup us) S else .bad
def eLst (a : Exs) : Ex := fun env S => (a env S).bind fun us S => if us.length ≤ 1000 then .ok (.lst us) S else .bad
def eOpN (f : List PV → Option PV) (a : Exs) : Ex := fun env S => (a env S).bind fun us S => .opt (f us) S

section
variable {X : Cx} {C : Kx → Addr} {E : WX} {a b c : Expr} {da db dc : Ex} {pos : Pos}

theorem h_var (i : Nat) {x : Str} {pos : Pos} (hN : X.N[i]? = some x := by rfl) (hv : Vis X.env.scope x := by first | exact Or.inl rfl | exact Or.inr (Or.inl rfl) | exact Or.inr (Or.inr rfl)) (hd : (x == ("__debug__" : Str)) = false := by decide)
    (hcd : (x == ("__classdict__" : Str)) = false := by decide) : PE X (.Name x pos) (rE X.K C E (eVar i)) := by
  refine (pe_var (X := X) (i := i) hN hv hd hcd).imp ?_
  rintro σ H Q ⟨w, env, S, s, h⟩
  unfold eVar at h
  split at h
  · rename_i y e
    obtain ⟨u, e1, r⟩ := s.sl i _ e
    exact ⟨u, e1, h w H (Wd.le.refl w) s u r⟩
  · exact h.elim

/-- a constant -/
theorem h_c {e : Expr} {v : V} {x : PV} (h : PE X e (tC v)) (r : ∀ K F ρ, Rep K C F ρ v x) : PE X e (rE X.K C E (eC x)) := by
  refine h.imp ?_
  rintro σ H Q ⟨w, env, S, s, h⟩
  exact h w H (Wd.le.refl w) s v (r _ _ _)
theorem h_int {i : Int} {j : Nat} : PE X (.Constant (.int i) j pos) (rE X.K C E (eC (.int i))) := h_c pe_int fun _ _ _ => .int i
theorem h_bl {i : Bool} {j : Nat} : PE X (.Constant (.bool i) j pos) (rE X.K C E (eC (.bl i))) := h_c pe_bl fun _ _ _ => .bl i
theorem h_non {j : Nat} : PE X (.Constant .none j pos) (rE X.K C E (eC .non)) := h_c pe_non fun _ _ _ => .non
theorem h_str {x : Str} {j : Nat} : PE X (.Constant (.str x) j pos) (rE X.K C E (eC (.str x))) := h_c pe_str fun _ _ _ => .str x

/-- a value, or an object that may still change but does not now -/
def Ob (K : PySem.W.Frag) (C : Kx → Addr) (F : Hp) (ρ : List Addr) (H : Hp) (a : Addr) : PV → Prop
  | .lst xs => ∃ vs, Rd H a (.lst vs) ∧ RepL K C F ρ vs xs
  | .dI kvs => ∃ kv, Rd H a (.dK kv) ∧ RepI K C F ρ kv kvs
  | .dT kvs => ∃ kv, Rd H a (.dT kv) ∧ RepT K C F ρ kv kvs
  | _ => False
def Seen (K : PySem.W.Frag) (C : Kx → Addr) (F : Hp) (ρ : List Addr) (H : Hp) (x : V) (u : PV) : Prop := Rep K C F ρ x u ∨ ∃ a, x = .ref a ∧ Ob K C F ρ H a u
/-- an operator by values keeps to f -/
def Op2 (K : PySem.W.Frag) (f : PV → PV → Option PV) (r : R2) : Prop := ∀ (C : Kx → Addr) (F H : Hp) (ρ : List Addr) (x y : V) (u v z : PV) (Q : VK), Le F H → Seen K C F ρ H x u → Seen K C F ρ H y v → f u v = some z →
  (∀ F' H' q, Grow F H F' H' → Rep K C F' ρ q z → Q q H') → r x y H Q
def Op1 (K : PySem.W.Frag) (f : PV → Option PV) (r : V → Hp → VK → Prop) : Prop := ∀ (C : Kx → Addr) (F H : Hp) (ρ : List Addr) (x : V) (u z : PV) (Q : VK), Le F H → Seen K C F ρ H x u → f u = some z →
  (∀ F' H' q, Grow F H F' H' → Rep K C F' ρ q z → Q q H') → r x H Q
def OpN (K : PySem.W.Frag) (f : List PV → Option PV) (r : List V → Hp → VK → Prop) : Prop := ∀ (C : Kx → Addr) (F H : Hp) (ρ : List Addr) (xs : List V) (us : List PV) (z : PV) (Q : VK), Le F H → RepL K C F ρ xs us → f us = some z →
  (∀ F' H' q, Grow F H F' H' → Rep K C F' ρ q z → Q q H') → r xs H Q

theorem run2 {K : PySem.W.Frag} {f : PV → PV → Option PV} {r : R2} (hf : Op2 K f r) {w : Wd} {env : En} {S : Sto} {σ : L2.St} {H : Hp} {x y : V} {u v : PV} {Q : VK} {P : PV → Sto → Wd → Hp → Prop} (s : Sim K C w env S σ H) (rx : Seen K C w.F w.ρ H x u) (ry : Seen K C w.F w.ρ H y v)
    (h : Wp K C E w env σ (R.opt (f u v) S) P) (hP : ∀ q z w' H', w.le w' → Sim K C w' env S σ H' → P z S w' H' → Rep K C w'.F w'.ρ q z → Q q H') : r x y H Q := by
  cases e : f u v with
  | none => rw [e] at h; exact h.elim
  | some z =>
    rw [e] at h
    refine hf C w.F H w.ρ x y u v z Q s.f rx ry e fun F' H' q g rq => ?_
    obtain ⟨s', le⟩ := s.grow g
    exact hP q z _ H' le s' (h _ H' le s') rq
theorem run1 {K : PySem.W.Frag} {f : PV → Option PV} {r : V → Hp → VK → Prop} (hf : Op1 K f r) {w : Wd} {env : En} {S : Sto} {σ : L2.St} {H : Hp} {x : V} {u : PV} {Q : VK} {P : PV → Sto → Wd → Hp → Prop} (s : Sim K C w env S σ H) (rx : Seen K C w.F w.ρ H x u)
    (h : Wp K C E w env σ (R.opt (f u) S) P) (hP : ∀ q z w' H', w.le w' → Sim K C w' env S σ H' → P z S w' H' → Rep K C w'.F w'.ρ q z → Q q H') : r x H Q := by
  cases e : f u with
  | none => rw [e] at h; exact h.elim
  | some z =>
    rw [e] at h
    refine hf C w.F H w.ρ x u z Q s.f rx e fun F' H' q g rq => ?_
    obtain ⟨s', le⟩ := s.grow g
    exact hP q z _ H' le s' (h _ H' le s') rq
theorem runN {K : PySem.W.Frag} {f : List PV → Option PV} {r : List V → Hp → VK → Prop} (hf : OpN K f r) {w : Wd} {env : En} {S : Sto} {σ : L2.St} {H : Hp} {x : List V} {u : List PV} {Q : VK} {P : PV → Sto → Wd → Hp → Prop} (s : Sim K C w env S σ H) (rx : RepL K C w.F w.ρ x u)
    (h : Wp K C E w env σ (R.opt (f u) S) P) (hP : ∀ q z w' H', w.le w' → Sim K C w' env S σ H' → P z S w' H' → Rep K C w'.F w'.ρ q z → Q q H') : r x H Q := by
  cases e : f u with
  | none => rw [e] at h; exact h.elim
  | some z =>
    rw [e] at h
    refine hf C w.F H w.ρ x u z Q s.f rx e fun F' H' q g rq => ?_
    obtain ⟨s', le⟩ := s.grow g
    exact hP q z _ H' le s' (h _ H' le s') rq

/-- two evaluations in a row -/
theorem seq2 {ta tb : TE} {K : PySem.W.Frag} {σ : L2.St} {H : Hp} {Q : V → V → Hp → Prop} {f : PV → PV → Sto → R PV} {P : PV → Sto → Wd → Hp → Prop} {w : Wd} {env : En} {S : Sto}
    (s : Sim K C w env S σ H) (h : Wp K C E w env σ ((da env S).bind fun u S => (db env S).bind fun v S => f u v S) P)
    (hq : ∀ x y u v S2 w2 H2, w.le w2 → Sim K C w2 env S2 σ H2 → Rep K C w2.F w2.ρ x u → Rep K C w2.F w2.ρ y v → Wp K C E w2 env σ (f u v S2) P → Q x y H2) : rE K C E da σ H fun x H1 => rE K C E db σ H1 fun y H2 => Q x y H2 := by
  refine ⟨w, env, S, s, h.bind.mono fun u S1 w1 H1 le1 s1 h1 x rx => ⟨w1, env, S1, s1, h1.bind.mono fun v S2 w2 H2 le2 s2 h2 y ry => ?_⟩⟩
  exact hq x y u v S2 w2 H2 (le1.trans le2) s2 (RepW.up le2 rx) ry h2

theorem h_op2 {op : Operator} {r : R2} {f : PV → PV → Option PV} (ho : OpR X (binaryOp op) r) (hf : Op2 X.K f r) (ha : PE X a (rE X.K C E da)) (hb : PE X b (rE X.K C E db)) : PE X (.BinOp a op b pos) (rE X.K C E (eOp2 f da db)) := by
  refine (pe_op ho ha hb).imp ?_
  rintro σ H Q ⟨w, env, S, s, h⟩
  exact seq2 (ta := tC .non) (tb := tC .non) s h fun x y u v S2 w2 H2 le s2 rx ry h2 => run2 hf s2 (.inl rx) (.inl ry) h2 fun q z w' H' le s' p rq => p q rq
theorem h_op1 {op : UnaryOp} {r : V → Hp → VK → Prop} {f : PV → Option PV} (ho : UnR X (unaryOp op) r) (hf : Op1 X.K f r) (ha : PE X a (rE X.K C E da)) : PE X (.UnaryOp op a pos) (rE X.K C E (eOp1 f da)) := by
  refine (pe_un ho ha).imp ?_
  rintro σ H Q ⟨w, env, S, s, h⟩
  exact ⟨w, env, S, s, h.bind.mono fun u S1 w1 H1 le1 s1 h1 x rx => run1 hf s1 (.inl rx) h1 fun q z w' H' le s' p rq => p q rq⟩
theorem h_cmp {op : CmpOp} {r : R2} {f : PV → PV → Option PV} (ho : OpR X (compareOp op) r) (hf : Op2 X.K f r) (hm : behindInMarks op b = false) (ha : PE X a (rE X.K C E da)) (hb : PE X b (rE X.K C E db)) : PE X (.Compare a [op] [b] pos) (rE X.K C E (eOp2 f da db)) := by
  refine (pe_cmpR ho ha hb hm).imp ?_
  rintro σ H Q ⟨w, env, S, s, h⟩
  exact seq2 (ta := tC .non) (tb := tC .non) s h fun x y u v S2 w2 H2 le s2 rx ry h2 => run2 hf s2 (.inl rx) (.inl ry) h2 fun q z w' H' le s' p rq => p q rq
theorem rep_bl {K : PySem.W.Frag} {F : Hp} {ρ : List Addr} {q : V} {b : Bool} (r : Rep K C F ρ q (.bl b)) : q = .bl b := by cases r; rfl
theorem ht_cmp {op : CmpOp} {r : R2} {f : PV → PV → Option PV} (ho : OpR X (compareOp op) r) (hf : Op2 X.K f r) (hm : behindInMarks op b = false) (ha : PE X a (rE X.K C E da)) (hb : PE X b (rE X.K C E db)) : PT X (.Compare a [op] [b] pos) (rT X.K C E (eOp2 f da db)) := by
  refine (pt_cmpR ho ha hb hm).imp ?_
  rintro σ H Q ⟨w, env, S, s, h⟩
  refine seq2 (ta := tC .non) (tb := tC .non) s h fun x y u v S2 w2 H2 le s2 rx ry h2 => run2 hf s2 (.inl rx) (.inl ry) h2 fun q z w' H' le s' p rq => ?_
  obtain ⟨bb, e, p⟩ := p
  subst e
  exact ⟨bb, rep_bl rq, p⟩
end
end Hw

set_option maxRecDepth 100000
set_option maxHeartbeats 4000000
namespace Hw
open PySem PySem.Spec L2
section
variable {X : Cx} {C : Kx → Addr} {E : WX} {a b c : Expr} {da db dc : Ex} {pos : Pos} {es : List Expr} {ds : Exs}

theorem chain_rd {K : PySem.W.Frag} {r r' : R2} {f g : PV → PV → Option PV} (hf : Op2 K f r) (hg : Op2 K g r') {w : Wd} {env : En} {S : Sto} {σ : L2.St} {H : Hp} {Q : VK} {P : PV → Sto → Wd → Hp → Prop}
    (s : Sim K C w env S σ H) (h : Wp K C E w env σ (eChain f g da db dc env S) P) (hP : ∀ q z S' w' H', Sim K C w' env S' σ H' → P z S' w' H' → Rep K C w'.F w'.ρ q z → Q q H') :
    tChain r r' (rE K C E da) (rE K C E db) (rE K C E dc) σ H Q := by
  unfold eChain at h
  refine seq2 (ta := tC .non) (tb := tC .non) s h fun x y u v S2 w2 H2 le s2 rx ry h2 => ?_
  cases e : f u v with
  | none => rw [e] at h2; exact h2.elim
  | some z =>
    rw [e] at h2
    refine hf C w2.F H2 w2.ρ x y u v z _ s2.f (.inl rx) (.inl ry) e fun F' H3 q gr rq => ?_
    obtain ⟨s3, le3⟩ := s2.grow gr
    have h3 := h2.up le3
    cases z with
    | bl k =>
      cases rep_bl rq
      refine ⟨k, rfl, ?_⟩
      cases k with
      | true =>
        rw [if_pos rfl]
        refine ⟨_, env, S2, s3, Wp.mono (Wp.bind h3) fun t S4 w4 H4 le4 s4 h4 q4 r4 => ?_⟩
        exact run2 hg s4 (.inl (RepW.up (le3.trans le4) ry)) (.inl r4) h4 fun q z w' H' le' s' p rq' => hP q z _ w' H' s' p rq'
      | false =>
        rw [if_neg Bool.false_ne_true]
        exact hP _ _ _ _ _ s3 (h3 _ _ (Wd.le.refl _) s3) (.bl false)
    | _ => exact h3.elim
theorem h_chain {op op' : CmpOp} {r r' : R2} {f g : PV → PV → Option PV} (ho : OpR X (compareOp op) r) (ho' : OpR X (compareOp op') r') (hf : Op2 X.K f r) (hg : Op2 X.K g r') (ha : PE X a (rE X.K C E da)) (hb : PE X b (rE X.K C E db)) (hc : PE X c (rE X.K C E dc))
    (hm : lastMarks [op, op'] [b, c] = false := by with_unfolding_all rfl) : PE X (.Compare a [op, op'] [b, c] pos) (rE X.K C E (eChain f g da db dc)) := by
  refine (pe_chain ho ho' ha hb hc hm).imp ?_
  rintro σ H Q ⟨w, env, S, s, h⟩
  exact chain_rd hf hg s h fun q z S' w' H' s' p rq => p q rq
theorem ht_chain {op op' : CmpOp} {r r' : R2} {f g : PV → PV → Option PV} (ho : OpR X (compareOp op) r) (ho' : OpR X (compareOp op') r') (hf : Op2 X.K f r) (hg : Op2 X.K g r') (ha : PE X a (rE X.K C E da)) (hb : PE X b (rE X.K C E db)) (hc : PE X c (rE X.K C E dc))
    (hm : lastMarks [op, op'] [b, c] = false := by with_unfolding_all rfl) : PT X (.Compare a [op, op'] [b, c] pos) (rT X.K C E (eChain f g da db dc)) := by
  refine (pt_chain ho ho' ha hb hc hm).imp ?_
  rintro σ H Q ⟨w, env, S, s, h⟩
  refine chain_rd hf hg s h fun q z S' w' H' s' p rq => ?_
  obtain ⟨bb, e, p⟩ := p
  subst e
  exact ⟨bb, rep_bl rq, p⟩

/-! ### and, or, not, a if c else b -/
theorem h_one {op : BoolOp} (h : PE X a (rE X.K C E da)) : PE X (.BoolOp op [a] pos) (rE X.K C E da) := pe_one h
theorem h_and {rest : List Expr} (ha : PE X a (rE X.K C E da)) (hb : PE X (.BoolOp .And (b :: rest) pos) (rE X.K C E db)) : PE X (.BoolOp .And (a :: b :: rest) pos) (rE X.K C E (eAnd da db)) := by
  refine (pe_and ha hb).imp ?_
  rintro σ H Q ⟨w, env, S, s, h⟩
  unfold eAnd at h
  refine ⟨w, env, S, s, h.bind.mono fun u S1 w1 H1 le1 s1 h1 x rx => ?_⟩
  cases u with
  | bl k =>
    cases rep_bl rx
    refine ⟨k, rfl, ?_⟩
    cases k with
    | true => rw [if_pos rfl]; exact ⟨w1, env, S1, s1, h1⟩
    | false => rw [if_neg Bool.false_ne_true]; exact h1 w1 H1 (Wd.le.refl _) s1 _ (.bl false)
  | _ => exact h1.elim
theorem h_or {rest : List Expr} (ha : PE X a (rE X.K C E da)) (hb : PE X (.BoolOp .Or (b :: rest) pos) (rE X.K C E db)) : PE X (.BoolOp .Or (a :: b :: rest) pos) (rE X.K C E (eOr da db)) := by
  refine (pe_or ha hb).imp ?_
  rintro σ H Q ⟨w, env, S, s, h⟩
  unfold eOr at h
  refine ⟨w, env, S, s, h.bind.mono fun u S1 w1 H1 le1 s1 h1 x rx => ?_⟩
  cases u with
  | bl k =>
    cases rep_bl rx
    refine ⟨k, rfl, ?_⟩
    cases k with
    | true => rw [if_pos rfl]; exact h1 w1 H1 (Wd.le.refl _) s1 _ (.bl true)
    | false => rw [if_neg Bool.false_ne_true]; exact ⟨w1, env, S1, s1, h1⟩
  | _ => exact h1.elim
theorem h_not (ha : PE X a (rE X.K C E da)) : PE X (.UnaryOp .Not a pos) (rE X.K C E (eNot da)) := by
  refine (pe_not ha).imp ?_
  rintro σ H Q ⟨w, env, S, s, h⟩
  unfold eNot at h
  refine ⟨w, env, S, s, h.bind.mono fun u S1 w1 H1 le1 s1 h1 x rx => ?_⟩
  cases u with
  | bl k =>
    cases rep_bl rx
    exact ⟨k, rfl, h1 w1 H1 (Wd.le.refl _) s1 _ (.bl _)⟩
  | _ => exact h1.elim
/-- any expression as a test -/
theorem ht_val {e : Expr} {d : Ex} (h : PE X e (rE X.K C E d)) (he : ∀ whole, isTrue e X.env whole = (do let v ← whole; standAt e.pos; holding [v] (truthy v)) := by intro _; rfl) : PT X e (rT X.K C E d) := by
  refine (pt_val h he).imp ?_
  rintro σ H Q ⟨w, env, S, s, h⟩
  refine ⟨w, env, S, s, h.mono fun u S1 w1 H1 le1 s1 h1 x rx => ?_⟩
  obtain ⟨k, e, q⟩ := h1
  subst e
  exact ⟨k, rep_bl rx, q⟩
theorem ht_not (ha : PT X a (rT X.K C E da)) : PT X (.UnaryOp .Not a pos) (rT X.K C E (eNot da)) := by
  refine (pt_not ha).imp ?_
  rintro σ H Q ⟨w, env, S, s, h⟩
  unfold eNot at h
  refine ⟨w, env, S, s, h.bind.mono fun u S1 w1 H1 le1 s1 h1 => ?_⟩
  cases u with
  | bl k =>
    obtain ⟨k', e, q⟩ := h1 w1 H1 (Wd.le.refl _) s1
    cases e
    exact ⟨k, rfl, q⟩
  | _ => exact h1.elim
theorem hw_and1 (ha : PT X a (rT X.K C E da)) : PW X (.BoolOp .And [a] pos) (rT X.K C E da) := pw_and1 ha
theorem hw_or1 (ha : PT X a (rT X.K C E da)) : PW X (.BoolOp .Or [a] pos) (rT X.K C E da) := pw_or1 ha
theorem hw_and {rest : List Expr} (ha : PT X a (rT X.K C E da)) (hb : PW X (.BoolOp .And (b :: rest) pos) (rT X.K C E db)) : PW X (.BoolOp .And (a :: b :: rest) pos) (rT X.K C E (eAnd da db)) := by
  refine (pw_and ha hb).imp ?_
  rintro σ H Q ⟨w, env, S, s, h⟩
  unfold eAnd at h
  refine ⟨w, env, S, s, h.bind.mono fun u S1 w1 H1 le1 s1 h1 => ?_⟩
  cases u with
  | bl k =>
    refine ⟨k, rfl, ?_⟩
    cases k with
    | true => rw [if_pos rfl]; exact ⟨w1, env, S1, s1, h1⟩
    | false =>
      rw [if_neg Bool.false_ne_true]
      obtain ⟨k', e, q⟩ := h1 w1 H1 (Wd.le.refl _) s1
      cases e
      exact q
  | _ => exact h1.elim
theorem hw_or {rest : List Expr} (ha : PT X a (rT X.K C E da)) (hb : PW X (.BoolOp .Or (b :: rest) pos) (rT X.K C E db)) : PW X (.BoolOp .Or (a :: b :: rest) pos) (rT X.K C E (eOr da db)) := by
  refine (pw_or ha hb).imp ?_
  rintro σ H Q ⟨w, env, S, s, h⟩
  unfold eOr at h
  refine ⟨w, env, S, s, h.bind.mono fun u S1 w1 H1 le1 s1 h1 => ?_⟩
  cases u with
  | bl k =>
    refine ⟨k, rfl, ?_⟩
    cases k with
    | true =>
      rw [if_pos rfl]
      obtain ⟨k', e, q⟩ := h1 w1 H1 (Wd.le.refl _) s1
      cases e
      exact q
    | false => rw [if_neg Bool.false_ne_true]; exact ⟨w1, env, S1, s1, h1⟩
  | _ => exact h1.elim
theorem h_if (hc : PT X c (rT X.K C E dc)) (ha : PE X a (rE X.K C E da)) (hb : PE X b (rE X.K C E db)) : PE X (.IfExp c a b pos) (rE X.K C E (eIf dc da db)) := by
  refine (pe_ifExp hc ha hb).imp ?_
  rintro σ H Q ⟨w, env, S, s, h⟩
  unfold eIf at h
  refine ⟨w, env, S, s, h.bind.mono fun u S1 w1 H1 le1 s1 h1 => ?_⟩
  cases u with
  | bl k =>
    refine ⟨k, rfl, ?_⟩
    cases k with
    | true => rw [if_pos rfl]; exact ⟨w1, env, S1, s1, h1⟩
    | false => rw [if_neg Bool.false_ne_true]; exact ⟨w1, env, S1, s1, h1⟩
  | _ => exact h1.elim

/-! ### argument lists, displays -/
theorem ha_nil : PA X [] (rA X.K C E esNil) := pa_nil.imp fun σ H Q ⟨w, env, S, s, h⟩ => h w H (Wd.le.refl _) s [] .nil
theorem cons_rd {K : PySem.W.Frag} {w : Wd} {env : En} {S : Sto} {σ : L2.St} {H : Hp} {Q : List V → Hp → Prop} (s : Sim K C w env S σ H) (h : Wp K C E w env σ (esCons da ds env S) fun vs _ w' H' => ∀ xs, RepL K C w'.F w'.ρ xs vs → Q xs H') : tCons (rE K C E da) (rA K C E ds) σ H Q := by
  unfold esCons at h
  refine ⟨w, env, S, s, h.bind.mono fun u S1 w1 H1 le1 s1 h1 x rx => ⟨w1, env, S1, s1, h1.bind.mono fun us S2 w2 H2 le2 s2 h2 xs rxs => ?_⟩⟩
  exact h2 w2 H2 (Wd.le.refl _) s2 _ (.cons (RepW.up le2 rx) rxs)
theorem ha_cons (ha : PE X a (rE X.K C E da)) (hr : PA X es (rA X.K C E ds)) (hs : starEach (a :: es) X.env = (false, eval a X.env) :: starEach es X.env := by rfl) : PA X (a :: es) (rA X.K C E (esCons da ds)) :=
  (pa_cons ha hr hs).imp fun σ H Q ⟨w, env, S, s, h⟩ => cons_rd s h
theorem hk_nil : PK X [] (rA X.K C E esNil) := pk_nil.imp fun σ H Q ⟨w, env, S, s, h⟩ => h w H (Wd.le.refl _) s [] .nil
theorem hk_cons {kws : List Keyword} {nm : Option Str} {kpos : Pos} (ha : PE X a (rE X.K C E da)) (hr : PK X kws (rA X.K C E ds)) : PK X (⟨nm, a, kpos⟩ :: kws) (rA X.K C E (esCons da ds)) :=
  (pk_cons ha hr).imp fun σ H Q ⟨w, env, S, s, h⟩ => cons_rd s h

theorem line1000 {n : Nat} (h : n ≤ 1000) : n ≤ sizeLine := Nat.le_trans h (by decide)
theorem h_tup {x1} (h : PA X es (rA X.K C E ds)) : PE X (.Tuple es x1 pos) (rE X.K C E (eTup ds)) := by
  refine (pe_tup h).imp ?_
  rintro σ H Q ⟨w, env, S, s, h⟩
  unfold eTup at h
  refine ⟨w, env, S, s, h.bind.mono fun us S1 w1 H1 le1 s1 h1 xs rx => ?_⟩
  split at h1
  · rename_i hl
    refine ⟨by rw [rx.length]; exact line1000 hl, fun p hp => ?_⟩
    have g := Grow.one (o := .tup xs) s1.f hp
    obtain ⟨s2, le2⟩ := s1.grow g
    exact h1 _ _ le2 s2 _ (.tup (SqT.of upd_same) (RepL.le g.ff (fun _ _ e => e) rx))
  · exact h1.elim

/-- the new object becomes a plain value: a list -/
theorem fz_l {K : PySem.W.Frag} {w : Wd} {env : En} {S : Sto} {σ : L2.St} {H : Hp} {p : Addr} {xs : List PV} (s : Sim K C w env S σ H) (fr : Fr1 w p) (ns : NotMine env σ p) (o : ObjR K C w H p (.lst xs)) :
    ∃ w', w.le w' ∧ Sim K C w' env S σ H ∧ Rep K C w'.F w'.ρ (.ref p) (.lst xs) := by
  obtain ⟨vs, e, r⟩ := o
  have ff : Le w.F (upd w.F p (.lst vs)) := Le.put fr.1
  have le : w.le { w with F := upd w.F p (.lst vs) } := Wd.le.ff ff
  have keep : ∀ a, a ≠ p → w.F a = none → upd w.F p (.lst vs) a = none := fun a n q => by rw [upd_ne n]; exact q
  refine ⟨_, le, ⟨fun a u q => ?_, s.b, fun a u q => ?_, s.lb, s.le, fun i x q => ?_, s.od, s.ln, s.nd, fun n c a e1 e2 => ?_⟩, .lst (Rd.of upd_same) (RepL.le ff (fun _ _ e => e) r)⟩
  · by_cases h : a = p
    · subst h
      have q : upd w.F a (.lst vs) a = some u := q
      rw [upd_same] at q; rw [← q]; exact e
    · have q : upd w.F p (.lst vs) a = some u := q
      rw [upd_ne h] at q; exact s.f _ _ q
  · rcases s.fb a u q with h | h
    · exact .inl (keep a (fun h => by subst h; rw [fr.b] at q; cases q) h)
    · exact .inr h
  · have z := s.sl i x q
    cases x with
    | un => trivial
    | v y => obtain ⟨u, h1, h2⟩ := z; exact ⟨u, h1, RepW.up le h2⟩
    | own y =>
      obtain ⟨a, h1, ⟨f1, f2, f3⟩, h2⟩ := z
      exact ⟨a, h1, ⟨keep a (fun h => ns i _ q rfl (by rw [← h]; exact h1)) f1, f2, f3⟩, h2.up le fun _ e => e⟩
    | lk y =>
      obtain ⟨a, h0, h1, h2⟩ := z
      exact ⟨a, h0, h1, h2.up le fun _ e => e⟩
  · obtain ⟨f1, f2, h2⟩ := s.cl n c a e1 e2
    exact ⟨keep a (fun h => fr.r (by rw [← h]; exact List.mem_of_getElem? e2)) f1, f2, h2.up le fun _ e => e⟩
/-- .. of what yields a list -/
theorem h_fz {e : Expr} {d : Ex} (h : PE X e (rN X.K C E d)) (hl : ∀ env S v S', d env S = .ok v S' → ∃ xs, v = .lst xs) : PE X e (rE X.K C E d) := by
  refine h.imp ?_
  rintro σ H Q ⟨w, env, S, s, h⟩
  refine ⟨w, env, S, s, ?_⟩
  cases hd : d env S with
  | ok v S' =>
    rw [hd] at h
    obtain ⟨xs, rfl⟩ := hl _ _ _ _ hd
    intro w1 H1 le1 s1 p fr ns o
    obtain ⟨w2, le2, s2, r2⟩ := fz_l s1 fr ns o
    exact h w2 H1 (le1.trans le2) s2 _ r2
  | ex c S' => rw [hd] at h; exact h
  | bad => rw [hd] at h; exact h
theorem Sim.loose {K : PySem.W.Frag} {w : Wd} {env : En} {S : Sto} {σ : L2.St} {H : Hp} {p : Addr} {o : HO} (s : Sim K C w env S σ H) (hp : H p = none) : Sim K C w env S σ (upd H p o) ∧ Fr1 w p ∧ NotMine env σ p := by
  obtain ⟨s', _⟩ := s.grow (Grow.loose (o := o) s.f hp)
  refine ⟨s', ⟨s.f.gone hp, s.b.gone hp, fun hm => ?_⟩, fun i x hx hm e => ?_⟩
  rotate_left
  · have z := s.sl i x hx
    cases x with
    | own y => obtain ⟨a, h1, _, h2⟩ := z; rw [e] at h1; cases h1; obtain ⟨u, hu⟩ := h2.there; rw [hp] at hu; cases hu
    | lk y => cases hm
    | un => cases hm
    | v y => cases hm
  obtain ⟨n, hn⟩ := List.getElem?_of_mem hm
  have hlt := (List.getElem?_eq_some_iff.mp hn).1
  rw [s.ln] at hlt
  obtain ⟨_, _, h2⟩ := s.cl n _ p (List.getElem?_eq_getElem hlt) hn
  obtain ⟨u, hu⟩ := h2.there
  rw [hp] at hu; cases hu
theorem h_lstN (h : PA X es (rA X.K C E ds)) : PE X (.List es pos) (rN X.K C E (eLst ds)) := by
  refine (pe_lst h).imp ?_
  rintro σ H Q ⟨w, env, S, s, h⟩
  unfold eLst at h
  refine ⟨w, env, S, s, h.bind.mono fun us S1 w1 H1 le1 s1 h1 xs rx => ?_⟩
  split at h1
  · rename_i hl
    refine ⟨by rw [rx.length]; exact line1000 hl, fun p hp => ?_⟩
    obtain ⟨s2, fr, nm⟩ := s1.loose (o := .lst xs) hp
    exact h1 _ _ (Wd.le.refl _) s2 p fr nm ⟨xs, upd_same, rx⟩
  · exact h1.elim
theorem h_lst (h : PA X es (rA X.K C E ds)) : PE X (.List es pos) (rE X.K C E (eLst ds)) := h_fz (h_lstN h) fun env S v S' e => by
  unfold eLst at e
  cases hd : ds env S with
  | ok us S1 =>
    rw [hd] at e
    simp only [R.bind] at e
    split at e
    · cases e; exact ⟨_, rfl⟩
    · cases e
  | ex c S1 => rw [hd] at e; cases e
  | bad => rw [hd] at e; cases e
end
end Hw

set_option maxRecDepth 100000
set_option maxHeartbeats 4000000
namespace Hw
open PySem PySem.Spec L2

/-! ### places: what is looked at where it stands -/
inductive Pl where
  | val (x : PV) | slot (i : Nat) | cell (n : Nat)
abbrev Plx := En → Sto → R Pl
def res (p : Pl) (env : En) (S : Sto) : Option PV := match p with
  | .val x => some x
  | .slot i => match env[i]? with
    | some (.v x) => some x
    | some (.own x) => some x
    | some (.lk x) => some x
    | _ => none
  | .cell n => S[n]?
def pV (d : Ex) : Plx := fun env S => (d env S).bind fun v S => .ok (.val v) S
def pBor (i : Nat) : Plx := fun env S => match env[i]? with
  | some (.v x) => .ok (.val x) S
  | some .un => .bad
  | some _ => .ok (.slot i) S
  | none => .bad
def pDer (d : Ex) : Plx := fun env S => (d env S).bind fun v S => match v with | .ptr n => .ok (.cell n) S | _ => .bad
def eP1 (f : PV → Option PV) (a : Plx) : Ex := fun env S => (a env S).bind fun p S => match res p env S with
  | some u => .opt (f u) S
  | none => .bad
def eP2 (f : PV → PV → Option PV) (a b : Plx) : Ex := fun env S => (a env S).bind fun p S => (b env S).bind fun q S => match res p env S with
  | some u => match res q env S with
    | some v => .opt (f u v) S
    | none => .bad
  | none => .bad

section
variable (K : PySem.W.Frag) (C : Kx → Addr) (E : WX)
def SeenP (w : Wd) (σ : L2.St) (x : V) : Pl → Prop
  | .val y => Rep K C w.F w.ρ x y
  | .slot i => σ[i]? = some (some x)
  | .cell n => ∃ a, w.ρ[n]? = some a ∧ x = .ref a
def rP (d : Plx) : TE := fun σ H Q => ∃ w env S, Sim K C w env S σ H ∧ Wp K C E w env σ (d env S) fun p _ w' H' => ∀ x, SeenP K C w' σ x p → Q x H'
end
section
variable {X : Cx} {C : Kx → Addr} {E : WX} {a b c : Expr} {da db dc : Plx} {pos : Pos} {es : List Expr}
theorem SeenP.up {K : PySem.W.Frag} {w w' : Wd} {σ : L2.St} {x : V} {p : Pl} (le : w.le w') (h : SeenP K C w σ x p) : SeenP K C w' σ x p := by
  cases p with
  | val y => exact RepW.up le h
  | slot i => exact h
  | cell n => obtain ⟨a, h1, h2⟩ := h; exact ⟨a, le.get h1, h2⟩
theorem ObjR.ob {K : PySem.W.Frag} {w : Wd} {H : Hp} {a : Addr} {x : PV} (r : ObjR K C w H a x) : Ob K C w.F w.ρ H a x := by
  cases x with
  | lst xs => obtain ⟨vs, e, r⟩ := r; exact ⟨vs, Rd.of e, r⟩
  | dI xs => obtain ⟨vs, e, r⟩ := r; exact ⟨vs, Rd.of e, r⟩
  | dT xs => obtain ⟨vs, e, r⟩ := r; exact ⟨vs, Rd.of e, r⟩
  | _ => exact r.elim
theorem LkR.ob {K : PySem.W.Frag} {w : Wd} {B H : Hp} {a : Addr} {x : PV} (r : LkR K C w B a x) (h : Le B H) : Ob K C w.F w.ρ H a x := by
  cases x with
  | lst xs => obtain ⟨vs, e, r⟩ := r; exact ⟨vs, Rd.of (h _ _ e), r⟩
  | dI xs => obtain ⟨o, vs, e, r⟩ := r; exact ⟨vs, .inr ⟨o, h _ _ e⟩, r⟩
  | dT xs => obtain ⟨o, vs, e, r⟩ := r; exact ⟨vs, .inr ⟨o, h _ _ e⟩, r⟩
  | _ => exact r.elim
theorem SeenP.seen {K : PySem.W.Frag} {w : Wd} {env : En} {S : Sto} {σ : L2.St} {H : Hp} {x : V} {p : Pl} {u : PV} (s : Sim K C w env S σ H) (h : SeenP K C w σ x p) (e : res p env S = some u) : Seen K C w.F w.ρ H x u := by
  cases p with
  | val y => cases e; exact .inl h
  | slot i =>
    have h : σ[i]? = some (some x) := h
    have e : (match env[i]? with
      | some (.v x) => some x
      | some (.own x) => some x
      | some (.lk x) => some x
      | _ => none) = some u := e
    cases q : env[i]? with
    | none => rw [q] at e; cases e
    | some y =>
      rw [q] at e
      have z := s.sl i y q
      cases y with
      | un => cases e
      | v t => cases e; obtain ⟨o, h1, h2⟩ := z; rw [h] at h1; cases h1; exact .inl h2
      | own t => cases e; obtain ⟨o, h1, _, h2⟩ := z; rw [h] at h1; cases h1; exact .inr ⟨o, rfl, h2.ob⟩
      | lk t => cases e; obtain ⟨o, _, h1, h2⟩ := z; rw [h] at h1; cases h1; exact .inr ⟨o, rfl, h2.ob s.b⟩
  | cell n =>
    obtain ⟨o, h1, h2⟩ := h
    subst h2
    obtain ⟨_, _, h3⟩ := s.cl n u o e h1
    exact .inr ⟨o, rfl, h3.ob⟩
theorem p_v {e : Expr} {d : Ex} (h : PE X e (rE X.K C E d)) : PE X e (rP X.K C E (pV d)) := by
  refine h.imp ?_
  rintro σ H Q ⟨w, env, S, s, h⟩
  exact ⟨w, env, S, s, h.bind.mono fun u S1 w1 H1 le1 s1 h1 x rx => h1 w1 H1 (Wd.le.refl _) s1 x rx⟩
theorem p_bor (i : Nat) {x : Str} {pos : Pos} (hN : X.N[i]? = some x := by rfl) (hv : Vis X.env.scope x := by first | exact Or.inl rfl | exact Or.inr (Or.inl rfl) | exact Or.inr (Or.inr rfl)) (hd : (x == ("__debug__" : Str)) = false := by decide)
    (hcd : (x == ("__classdict__" : Str)) = false := by decide) : PE X (.Name x pos) (rP X.K C E (pBor i)) := by
  refine (pe_var (X := X) (i := i) hN hv hd hcd).imp ?_
  rintro σ H Q ⟨w, env, S, s, h⟩
  unfold pBor at h
  cases q : env[i]? with
  | none => rw [q] at h; exact h.elim
  | some y =>
    rw [q] at h
    have z := s.sl i y q
    cases y with
    | un => exact h.elim
    | v t => obtain ⟨o, h1, h2⟩ := z; exact ⟨o, h1, h w H (Wd.le.refl _) s o h2⟩
    | own t => obtain ⟨o, h1, _, h2⟩ := z; exact ⟨_, h1, h w H (Wd.le.refl _) s _ h1⟩
    | lk t => obtain ⟨o, _, h1, h2⟩ := z; exact ⟨_, h1, h w H (Wd.le.refl _) s _ h1⟩
theorem p_der {e : Expr} {d : Ex} (h : PE X e (rE X.K C E d)) : PE X e (rP X.K C E (pDer d)) := by
  refine h.imp ?_
  rintro σ H Q ⟨w, env, S, s, h⟩
  refine ⟨w, env, S, s, h.bind.mono fun u S1 w1 H1 le1 s1 h1 x rx => ?_⟩
  cases u with
  | ptr n => cases rx with | ptr r => exact h1 w1 H1 (Wd.le.refl _) s1 _ ⟨_, r, rfl⟩
  | _ => exact h1.elim

theorem p1_rd {K : PySem.W.Frag} {f : PV → Option PV} {r : V → Hp → VK → Prop} (hf : Op1 K f r) {σ : L2.St} {H : Hp} {Q : VK} (h : rE K C E (eP1 f da) σ H Q) : rP K C E da σ H fun x H1 => r x H1 Q := by
  obtain ⟨w, env, S, s, h⟩ := h
  unfold eP1 at h
  refine ⟨w, env, S, s, h.bind.mono fun p S1 w1 H1 le1 s1 h1 x rx => ?_⟩
  split at h1
  · rename_i u e
    exact run1 hf s1 (rx.seen s1 e) h1 fun q z w' H' le s' p rq => p q rq
  · exact h1.elim
theorem p2_rd {K : PySem.W.Frag} {f : PV → PV → Option PV} {r : R2} (hf : Op2 K f r) {σ : L2.St} {H : Hp} {Q : VK} {P : PV → Sto → Wd → Hp → Prop} {w : Wd} {env : En} {S : Sto} (s : Sim K C w env S σ H) (h : Wp K C E w env σ (eP2 f da db env S) P)
    (hP : ∀ q z S' w' H', Sim K C w' env S' σ H' → P z S' w' H' → Rep K C w'.F w'.ρ q z → Q q H') : rP K C E da σ H fun x H1 => rP K C E db σ H1 fun y H2 => r x y H2 Q := by
  unfold eP2 at h
  refine ⟨w, env, S, s, h.bind.mono fun p S1 w1 H1 le1 s1 h1 x rx => ⟨w1, env, S1, s1, h1.bind.mono fun q S2 w2 H2 le2 s2 h2 y ry => ?_⟩⟩
  split at h2
  · rename_i u e
    split at h2
    · rename_i v e2
      exact run2 hf s2 ((rx.up le2).seen s2 e) (ry.seen s2 e2) h2 fun q z w' H' le s' p rq => hP q z _ w' H' s' p rq
    · exact h2.elim
  · exact h2.elim
theorem hp_op2 {op : Operator} {r : R2} {f : PV → PV → Option PV} (ho : OpR X (binaryOp op) r) (hf : Op2 X.K f r) (ha : PE X a (rP X.K C E da)) (hb : PE X b (rP X.K C E db)) : PE X (.BinOp a op b pos) (rE X.K C E (eP2 f da db)) :=
  (pe_op ho ha hb).imp fun σ H Q ⟨w, env, S, s, h⟩ => p2_rd hf s h fun q z S' w' H' s' p rq => p q rq
theorem hp_cmp {op : CmpOp} {r : R2} {f : PV → PV → Option PV} (ho : OpR X (compareOp op) r) (hf : Op2 X.K f r) (hm : behindInMarks op b = false) (ha : PE X a (rP X.K C E da)) (hb : PE X b (rP X.K C E db)) : PE X (.Compare a [op] [b] pos) (rE X.K C E (eP2 f da db)) :=
  (pe_cmpR ho ha hb hm).imp fun σ H Q ⟨w, env, S, s, h⟩ => p2_rd hf s h fun q z S' w' H' s' p rq => p q rq
theorem hpt_cmp {op : CmpOp} {r : R2} {f : PV → PV → Option PV} (ho : OpR X (compareOp op) r) (hf : Op2 X.K f r) (hm : behindInMarks op b = false) (ha : PE X a (rP X.K C E da)) (hb : PE X b (rP X.K C E db)) : PT X (.Compare a [op] [b] pos) (rT X.K C E (eP2 f da db)) :=
  (pt_cmpR ho ha hb hm).imp fun σ H Q ⟨w, env, S, s, h⟩ => p2_rd hf s h fun q z S' w' H' s' p rq => by
    obtain ⟨bb, e, p⟩ := p
    subst e
    exact ⟨bb, rep_bl rq, p⟩
theorem hp_ix {r : R2} {f : PV → PV → Option PV} (ho : IxR X r) (hf : Op2 X.K f r) (hs : PlainIx b) (ha : PE X a (rP X.K C E da)) (hb : PE X b (rP X.K C E db)) : PE X (.Subscript a b pos) (rE X.K C E (eP2 f da db)) :=
  (pe_ix ho ha hb hs).imp fun σ H Q ⟨w, env, S, s, h⟩ => p2_rd hf s h fun q z S' w' H' s' p rq => p q rq

/-! ### calls of built-in functions with one argument, two -/
section
variable {x : Str} {p : Pos} {id T : String} {r : List V → Hp → VK → Prop}
theorem pa1_rd {σ : L2.St} {H : Hp} {Q : VK} {ta : TE} (h : ta σ H fun x H1 => r [x] H1 Q) : tCB r (tCons ta tNil) σ H Q := h
theorem hp_b1 {f : PV → Option PV} (hc : CallR X (.builtin id) r) (hf : Op1 X.K f fun x H Q => r [x] H Q) (hg : Gl X x) (hm : X.mg x = none) (hv : bootBuiltins x = some (.builtin id)) (ha : PE X a (rP X.K C E da)) (hn : x ≠ "__name__" := by decide) (hdb : (x == ("__debug__" : Str)) = false := by decide)
    (he : starEach [a] X.env = [(false, eval a X.env)] := by rfl) : PE X (.Call (.Name x p) [a] [] pos) (rE X.K C E (eP1 f da)) :=
  (pe_callB hc hg hm hv (pa_cons ha pa_nil he) hn hdb he).imp fun σ H Q h => p1_rd hf h
theorem hp_t1 {f : PV → Option PV} (hc : CallR X (.type T) r) (hf : Op1 X.K f fun x H Q => r [x] H Q) (hg : Gl X x) (hm : X.mg x = none) (hv : bootBuiltins x = some (.type T)) (ha : PE X a (rP X.K C E da)) (hn : x ≠ "__name__" := by decide) (hdb : (x == ("__debug__" : Str)) = false := by decide)
    (he : starEach [a] X.env = [(false, eval a X.env)] := by rfl) : PE X (.Call (.Name x p) [a] [] pos) (rE X.K C E (eP1 f da)) :=
  (pe_callTy hc hg hm hv (pa_cons ha pa_nil he) hn hdb he).imp fun σ H Q h => p1_rd hf h
theorem hp_b2 {f : PV → PV → Option PV} (hc : CallR X (.builtin id) r) (hf : Op2 X.K f fun x y H Q => r [x, y] H Q) (hg : Gl X x) (hm : X.mg x = none) (hv : bootBuiltins x = some (.builtin id)) (ha : PE X a (rP X.K C E da)) (hb : PE X b (rP X.K C E db)) (hn : x ≠ "__name__" := by decide) (hdb : (x == ("__debug__" : Str)) = false := by decide)
    (he : starEach [a, b] X.env = [(false, eval a X.env), (false, eval b X.env)] := by rfl) (he2 : starEach [b] X.env = [(false, eval b X.env)] := by rfl) : PE X (.Call (.Name x p) [a, b] [] pos) (rE X.K C E (eP2 f da db)) :=
  (pe_callB hc hg hm hv (pa_cons ha (pa_cons hb pa_nil he2) (by rw [he, he2])) hn hdb (by rw [he, he2]) (by rw [he2] <;> rfl)).imp fun σ H Q ⟨w, env, S, s, h⟩ =>
    show rP _ _ _ da σ H fun x H1 => rP _ _ _ db σ H1 fun y H2 => r [x, y] H2 Q from p2_rd (r := fun x y H Q => r [x, y] H Q) hf s h fun q z S' w' H' s' p rq => p q rq
end
end
end Hw

set_option maxRecDepth 100000
set_option maxHeartbeats 4000000
namespace Hw
open PySem PySem.Spec L2

/-! ### what is walked -/
abbrev Itx := En → Sto → R (List PV)
def itemsOf : PV → Option (List PV)
  | .lst xs => some xs
  | .tup xs => some xs
  | .dI kvs => some (kvs.map fun p => .int p.1)
  | .dT kvs => some (kvs.map fun p => .tup (p.1.map .int))
  | _ => none
def iP (d : Plx) : Itx := fun env S => (d env S).bind fun p S => match p with
  | .val x => .opt (itemsOf x) S
  | .slot i => match env[i]? with
    | some (.lk x) => .opt (itemsOf x) S
    | _ => .bad
  | .cell _ => .bad
def rangeL (lo : Int) (n : Nat) : List PV := (List.range n).map fun (i : Nat) => .int (lo + i)
def okN (i : Int) : Bool := decide (-(2 ^ 62) ≤ i) && decide (i < 2 ^ 62)
def iR1 (a : Ex) : Itx := fun env S => (a env S).bind fun u S => match u with
  | .int j => if okN j then .ok (rangeL 0 j.toNat) S else .bad
  | _ => .bad
def iR2 (a b : Ex) : Itx := fun env S => (a env S).bind fun u S => (b env S).bind fun v S => match u, v with
  | .int i, .int j => if okN i && okN j then .ok (rangeL i (j - i).toNat) S else .bad
  | _, _ => .bad
/-- range(a, b, -1) -/
def iRd (a b c : Ex) : Itx := fun env S => (a env S).bind fun u S => (b env S).bind fun v S => (c env S).bind fun t S => match u, v, t with
  | .int i, .int j, .int k => if okN i && okN j && k == -1 then .ok ((List.range (i - j).toNat).map fun (m : Nat) => .int (i - m)) S else .bad
  | _, _, _ => .bad
def enumL (xs : List PV) : List PV := (List.range xs.length).zipWith (fun (i : Nat) x => .tup [.int i, x]) xs
def iEn (d : Plx) : Itx := fun env S => (d env S).bind fun p S => match p with
  | .val (.lst xs) => .ok (enumL xs) S
  | _ => .bad

section
variable (K : PySem.W.Frag) (C : Kx → Addr) (E : WX)
def Feeds (w : Wd) (J : It) (xs : List PV) : Prop := ∀ w1 H1, w.le w1 → Le w1.F H1 → Le w1.B H1 →
  (∀ i y, xs[i]? = some y → J.go i H1 ∧ ∀ x H2, J.yld i H1 x H2 → ∃ F2, Grow w1.F H1 F2 H2 ∧ Rep K C F2 w1.ρ x y) ∧ J.stop xs.length H1
def rIt (d : Itx) : TI := fun σ H R => ∃ w env S, Sim K C w env S σ H ∧ Wp K C E w env σ (d env S) fun xs _ w' H' => ∀ J, Feeds K C w' J xs → R J H'
end
theorem _root_.L2.PI.imp {X : Cx} {tg e : Expr} {t t' : TI} (h : PI X tg e t) (hi : ∀ σ H Q, t' σ H Q → t σ H Q) : PI X tg e t' := ⟨fun pins s σ H Q I q => h.run pins s σ H Q I (hi _ _ _ q)⟩
theorem _root_.L2.PI.or {X : Cx} {tg e : Expr} {t t' : TI} (h : PI X tg e t) (h' : PI X tg e t') : PI X tg e (fun σ H R => t σ H R ∨ t' σ H R) :=
  ⟨fun pins s σ H Q I q => q.elim (h.run pins s σ H Q I) (h'.run pins s σ H Q I)⟩
section
variable {X : Cx} {C : Kx → Addr} {E : WX} {a b c e tg : Expr} {pos : Pos} {K : PySem.W.Frag} {w w' : Wd} {env : En} {S : Sto} {σ : L2.St} {H : Hp}
theorem Feeds.up {J : It} {xs : List PV} (h : Feeds K C w J xs) (le : w.le w') : Feeds K C w' J xs := fun w1 H1 le1 f b => h w1 H1 (le.trans le1) f b
theorem RepI.keys {F : Hp} {ρ : List Addr} : ∀ {kv : List (Key × V)} {kvs : List (Int × PV)}, RepI K C F ρ kv kvs → kv.map (·.1) = kvs.map fun p => Sum.inl p.1
  | _, _, .nil => rfl
  | _, _, .cons _ s => by simp [RepI.keys s]
theorem RepT.keys {F : Hp} {ρ : List Addr} : ∀ {kv : List (List Key × V)} {kvs : List (List Int × PV)}, RepT K C F ρ kv kvs → kv.map (·.1) = kvs.map fun p => p.1.map Sum.inl
  | _, _, .nil => rfl
  | _, _, .cons _ s => by simp [RepT.keys s]
theorem SqL.tracked {H : Hp} {a : Addr} {vs : List V} (h : H a = some (.lst vs)) {xs : List V} (q : SqL K H a xs) (hk : K.lookup a = none) : xs = vs := by
  rcases q with (q | ⟨o, q⟩) | ⟨o, _, _, q, _⟩
  · rw [h] at q; cases q; rfl
  · rw [h] at q; cases q
  · rw [hk] at q; cases q
theorem feed_l {a' : Addr} {xs : List PV} {vs : List V} (r : RepL K C w.F w.ρ vs xs) (hs : ∀ (w1 : Wd) (H1 : Hp), w.le w1 → Le w1.F H1 → Le w1.B H1 → SqL K H1 a' vs) : Feeds K C w (Itl K a') xs := by
  intro w1 H1 le1 hf hb
  have q := hs w1 H1 le1 hf hb
  refine ⟨fun i y e => ?_, ⟨vs, q, by rw [r.length]; exact Nat.le_refl _⟩⟩
  obtain ⟨v, ev, rv⟩ := r.get e
  refine ⟨⟨vs, v, q, ev⟩, fun x H2 h => ?_⟩
  obtain ⟨rfl, h⟩ := h
  have z := h vs q
  rw [ev] at z; cases z
  exact ⟨w1.F, Grow.refl hf, RepW.up le1 rv⟩
theorem feed_t {a' : Addr} {xs : List PV} {vs : List V} (r : RepL K C w.F w.ρ vs xs) (hs : ∀ (w1 : Wd) (H1 : Hp), w.le w1 → Le w1.F H1 → Le w1.B H1 → SqT K H1 a' vs) : Feeds K C w (Itt K a') xs := by
  intro w1 H1 le1 hf hb
  have q := hs w1 H1 le1 hf hb
  refine ⟨fun i y e => ?_, ⟨vs, q, by rw [r.length]; exact Nat.le_refl _⟩⟩
  obtain ⟨v, ev, rv⟩ := r.get e
  refine ⟨⟨vs, v, q, ev⟩, fun x H2 h => ?_⟩
  obtain ⟨rfl, h⟩ := h
  have z := h vs q
  rw [ev] at z; cases z
  exact ⟨w1.F, Grow.refl hf, RepW.up le1 rv⟩
theorem feed_k {d : Addr} {o : Obj} {kv : List (Key × V)} {kvs : List (Int × PV)} (r : RepI K C w.F w.ρ kv kvs) (hs : ∀ (w1 : Wd) (H1 : Hp), w.le w1 → Le w1.F H1 → Le w1.B H1 → H1 d = some (.frz o (.dK kv))) :
    Feeds K C w (Itk d o kv) (kvs.map fun p => .int p.1) := by
  intro w1 H1 le1 hf hb
  have q := hs w1 H1 le1 hf hb
  have hk := r.keys
  have hl : kv.length = kvs.length := by simpa using congrArg List.length hk
  refine ⟨fun i y e => ?_, ⟨q, by simp [hl]⟩⟩
  obtain ⟨hi, _⟩ := List.getElem?_eq_some_iff.mp e
  have hi' : i < kv.length := by rw [hl]; simpa using hi
  refine ⟨⟨q, hi'⟩, fun x H2 h => ?_⟩
  obtain ⟨rfl, k, v, h1, h2⟩ := h
  have z : (kv.map (·.1))[i]? = some k := by rw [List.getElem?_map, h1]; rfl
  rw [hk, List.getElem?_map] at z
  rw [List.getElem?_map] at e
  cases q2 : kvs[i]? with
  | none => rw [q2] at e; cases e
  | some p =>
    rw [q2] at e z
    simp only [Option.map_some, Option.some.injEq] at e z
    subst z
    subst e
    rw [h2]
    exact ⟨w1.F, Grow.refl hf, .int _⟩
theorem rep_ints : ∀ (ks : List Int) (F : Hp) (ρ : List Addr), RepL K C F ρ ((ks.map Sum.inl).map kV) (ks.map PV.int)
  | [], _, _ => .nil
  | k :: ks, F, ρ => .cons (.int k) (rep_ints ks F ρ)
theorem keysT : ∀ {kv : List (List Key × V)} {kvs : List (List Int × PV)} {i : Nat} {k : List Key} {v : V} {p : List Int × PV} {F : Hp} {ρ : List Addr}, RepT K C F ρ kv kvs → kv[i]? = some (k, v) → kvs[i]? = some p → k = p.1.map Sum.inl
  | _, _, 0, _, _, _, _, _, .cons _ _, e, e2 => by simp at e e2; rw [← e.1, ← e2]
  | _, _, i + 1, _, _, _, _, _, .cons _ s, e, e2 => keysT (i := i) s (by simpa using e) (by simpa using e2)
  | _, _, _, _, _, _, _, _, .nil, e, _ => by simp at e
theorem feed_kt {d : Addr} {o : Obj} {kv : List (List Key × V)} {kvs : List (List Int × PV)} (r : RepT K C w.F w.ρ kv kvs) (hs : ∀ (w1 : Wd) (H1 : Hp), w.le w1 → Le w1.F H1 → Le w1.B H1 → H1 d = some (.frz o (.dT kv))) :
    Feeds K C w (Itkt d o kv) (kvs.map fun p => .tup (p.1.map .int)) := by
  intro w1 H1 le1 hf hb
  have q := hs w1 H1 le1 hf hb
  have hk := r.keys
  have hl : kv.length = kvs.length := by simpa using congrArg List.length hk
  refine ⟨fun i y e => ?_, ⟨q, by simp [hl]⟩⟩
  obtain ⟨hi, _⟩ := List.getElem?_eq_some_iff.mp e
  have hi' : i < kv.length := by rw [hl]; simpa using hi
  refine ⟨⟨q, hi'⟩, fun x H2 h => ?_⟩
  obtain ⟨rfl, k, v, p, h1, h2, h3⟩ := h
  rw [List.getElem?_map] at e
  cases q2 : kvs[i]? with
  | none => rw [q2] at e; cases e
  | some t =>
    rw [q2] at e
    simp only [Option.map_some, Option.some.injEq] at e
    subst e
    subst h2
    have ek := keysT r h1 q2
    subst ek
    by_cases hp : w1.F p = none
    · refine ⟨upd w1.F p (.tup ((t.1.map Sum.inl).map kV)), ⟨Le.put hp, Le.refl _, fun a u z => ?_, fun a z _ => ?_⟩, .tup (SqT.of upd_same) (rep_ints _ _ _)⟩
      · by_cases ha : a = p
        · subst ha; rw [upd_same] at z; rw [← z]; exact h3
        · rw [upd_ne ha] at z; exact hf _ _ z
      · by_cases ha : a = p
        · subst ha; exact .inr ⟨_, upd_same⟩
        · rw [upd_ne ha]; exact .inl z
    · cases hp2 : w1.F p with
      | none => exact absurd hp2 hp
      | some u =>
        have z := hf _ _ hp2
        rw [h3] at z
        have z' := Option.some.inj z
        subst z'
        exact ⟨w1.F, Grow.refl hf, .tup (SqT.of hp2) (rep_ints _ _ _)⟩
/-- a value, or a locked slot, walked -/
theorem i_p {d : Plx} (h : PE X e (rP X.K C E d)) : PI X tg e (rIt X.K C E (iP d)) := by
  refine (((pi_list h).or (pi_tup h)).or (pi_keys h)).imp ?_
  rintro σ H T ⟨w, env, S, s, h⟩
  unfold iP at h
  cases hd : d env S with
  | ex c S1 =>
    rw [hd] at h
    exact .inl (.inl ⟨w, env, S, s, by rw [hd]; exact h⟩)
  | bad => rw [hd] at h; exact h.elim
  | ok p S1 =>
    rw [hd] at h
    cases p with
    | cell n => exact h.elim
    | val y =>
      have h : Wp X.K C E w env σ (R.opt (itemsOf y) S1) (fun xs _ w' H' => ∀ J, Feeds X.K C w' J xs → T J H') := h
      cases y with
      | lst xs =>
        refine .inl (.inl ⟨w, env, S, s, ?_⟩)
        rw [hd]
        intro w1 H1 le1 s1 x r
        have r : Rep X.K C w1.F w1.ρ x (.lst xs) := r
        cases r with
        | lst q r => exact ⟨_, rfl, ⟨_, .inl (Rd.le s1.f q)⟩, h w1 H1 le1 s1 _ (feed_l r fun w2 H2 le f b => .inl (Rd.le (le.f.trans f) q))⟩
      | tup xs =>
        refine .inl (.inr ⟨w, env, S, s, ?_⟩)
        rw [hd]
        intro w1 H1 le1 s1 x r
        have r : Rep X.K C w1.F w1.ρ x (.tup xs) := r
        cases r with
        | tup q r => exact ⟨_, rfl, ⟨_, SqT.le s1.f q⟩, h w1 H1 le1 s1 _ (feed_t r fun w2 H2 le f b => SqT.le (le.f.trans f) q)⟩
      | dI xs =>
        refine .inr ⟨w, env, S, s, ?_⟩
        rw [hd]
        intro w1 H1 le1 s1 x r
        have r : Rep X.K C w1.F w1.ρ x (.dI xs) := r
        cases r with
        | dI q r => exact ⟨_, _, rfl, .inl ⟨_, s1.f _ _ q, h w1 H1 le1 s1 _ (feed_k r fun w2 H2 le f b => f _ _ (le.f _ _ q))⟩⟩
      | dT xs =>
        refine .inr ⟨w, env, S, s, ?_⟩
        rw [hd]
        intro w1 H1 le1 s1 x r
        have r : Rep X.K C w1.F w1.ρ x (.dT xs) := r
        cases r with
        | dT q r => exact ⟨_, _, rfl, .inr ⟨_, s1.f _ _ q, h w1 H1 le1 s1 _ (feed_kt r fun w2 H2 le f b => f _ _ (le.f _ _ q))⟩⟩
      | _ => exact h.elim
    | slot i =>
      have h : Wp X.K C E w env σ (match env[i]? with
        | some (.lk x) => R.opt (itemsOf x) S1
        | _ => .bad) (fun xs _ w' H' => ∀ J, Feeds X.K C w' J xs → T J H') := h
      cases q : env[i]? with
      | none => rw [q] at h; exact h.elim
      | some y =>
        rw [q] at h
        cases y with
        | lk t =>
          cases t with
          | lst xs =>
            refine .inl (.inl ⟨w, env, S, s, ?_⟩)
            rw [hd]
            intro w1 H1 le1 s1 x r
            have r : σ[i]? = some (some x) := r
            obtain ⟨a, _, e1, vs, q, rr⟩ := s1.sl i _ q
            rw [r] at e1; cases e1
            exact ⟨_, rfl, ⟨_, SqL.of (s1.b _ _ q)⟩, h w1 H1 le1 s1 _ (feed_l rr fun w2 H2 le f b => SqL.of (b _ _ (by rw [le.b]; exact q)))⟩
          | dI xs =>
            refine .inr ⟨w, env, S, s, ?_⟩
            rw [hd]
            intro w1 H1 le1 s1 x r
            have r : σ[i]? = some (some x) := r
            obtain ⟨a, _, e1, o, vs, q, rr⟩ := s1.sl i _ q
            rw [r] at e1; cases e1
            exact ⟨_, _, rfl, .inl ⟨_, s1.b _ _ q, h w1 H1 le1 s1 _ (feed_k rr fun w2 H2 le f b => b _ _ (by rw [le.b]; exact q))⟩⟩
          | dT xs =>
            refine .inr ⟨w, env, S, s, ?_⟩
            rw [hd]
            intro w1 H1 le1 s1 x r
            have r : σ[i]? = some (some x) := r
            obtain ⟨a, _, e1, o, vs, q, rr⟩ := s1.sl i _ q
            rw [r] at e1; cases e1
            exact ⟨_, _, rfl, .inr ⟨_, s1.b _ _ q, h w1 H1 le1 s1 _ (feed_kt rr fun w2 H2 le f b => b _ _ (by rw [le.b]; exact q))⟩⟩
          | tup xs =>
            refine .inl (.inl ⟨w, env, S, s, ?_⟩)
            rw [hd]
            intro w1 H1 le1 s1 x r
            obtain ⟨a, _, e1, z⟩ := s1.sl i _ q
            exact z.elim
          | _ => exact h.elim
        | _ => exact h.elim
theorem okN_iff {i : Int} : okN i = true ↔ -(2 ^ 62) ≤ i ∧ i < 2 ^ 62 := by
  unfold okN
  rw [Bool.and_eq_true, decide_eq_true_eq, decide_eq_true_eq]
theorem feed_r (lo : Int) (n : Nat) : Feeds K C w (Itr lo n) (rangeL lo n) := by
  intro w1 H1 le1 hf hb
  refine ⟨fun i y e => ?_, by show n ≤ (rangeL lo n).length; simp [rangeL]⟩
  unfold rangeL at e
  rw [List.getElem?_map] at e
  cases q : (List.range n)[i]? with
  | none => rw [q] at e; cases e
  | some m =>
    rw [q] at e
    obtain ⟨hi, hm⟩ := List.getElem?_eq_some_iff.mp q
    rw [List.getElem_range] at hm
    rw [List.length_range] at hi
    subst hm
    simp only [Option.map_some, Option.some.injEq] at e
    subst e
    refine ⟨hi, fun x H2 h => ?_⟩
    obtain ⟨rfl, rfl⟩ := h
    exact ⟨w1.F, Grow.refl hf, .int _⟩
theorem i_r1 {p : Pos} {da : Ex} (hg : Gl X "range") (hm : X.mg "range" = none) (ha : PE X a (rE X.K C E da)) (hs : starEach [a] X.env = [(false, eval a X.env)] := by rfl) : PI X tg (.Call (.Name "range" p) [a] [] pos) (rIt X.K C E (iR1 da)) := by
  refine (pi_range1 hg hm (pa_cons ha pa_nil hs) hs).imp ?_
  rintro σ H T ⟨w, env, S, s, h⟩
  unfold iR1 at h
  refine ⟨w, env, S, s, h.bind.mono fun u S1 w1 H1 le1 s1 h1 x rx => ?_⟩
  cases u with
  | int j =>
    cases rx
    have h1 : Wp X.K C E w1 env σ (if okN j then .ok (rangeL 0 j.toNat) S1 else .bad) (fun xs _ w' H' => ∀ J, Feeds X.K C w' J xs → T J H') := h1
    split at h1
    · rename_i hj
      exact ⟨j, rfl, (okN_iff.mp hj).1, (okN_iff.mp hj).2, h1 w1 H1 (Wd.le.refl _) s1 _ (feed_r _ _)⟩
    · exact h1.elim
  | _ => exact h1.elim
theorem i_r2 {p : Pos} {da db : Ex} (hg : Gl X "range") (hm : X.mg "range" = none) (ha : PE X a (rE X.K C E da)) (hb : PE X b (rE X.K C E db)) (hs : starEach [a, b] X.env = [(false, eval a X.env), (false, eval b X.env)] := by rfl) (hs2 : starEach [b] X.env = [(false, eval b X.env)] := by rfl) :
    PI X tg (.Call (.Name "range" p) [a, b] [] pos) (rIt X.K C E (iR2 da db)) := by
  refine (pi_range2 hg hm (pa_cons ha (pa_cons hb pa_nil hs2) (by rw [hs, hs2])) hs hs2).imp ?_
  rintro σ H T ⟨w, env, S, s, h⟩
  unfold iR2 at h
  refine ⟨w, env, S, s, h.bind.mono fun u S1 w1 H1 le1 s1 h1 x rx => ⟨w1, env, S1, s1, h1.bind.mono fun v S2 w2 H2 le2 s2 h2 y ry => ?_⟩⟩
  cases u with
  | int i =>
    cases rx
    cases v with
    | int j =>
      cases ry
      have h2 : Wp X.K C E w2 env σ (if okN i && okN j then .ok (rangeL i (j - i).toNat) S2 else .bad) (fun xs _ w' H' => ∀ J, Feeds X.K C w' J xs → T J H') := h2
      split at h2
      · rename_i hj
        obtain ⟨q1, q2⟩ := Bool.and_eq_true_iff.mp hj
        exact ⟨i, j, rfl, ⟨(okN_iff.mp q1).1, (okN_iff.mp q1).2, (okN_iff.mp q2).1, (okN_iff.mp q2).2⟩, h2 w2 H2 (Wd.le.refl _) s2 _ (feed_r _ _)⟩
      · exact h2.elim
    | _ => exact h2.elim
  | _ => exact h2.elim
end
end Hw

set_option maxRecDepth 100000
set_option maxHeartbeats 4000000
namespace Hw
open PySem PySem.Spec L2

/-! ### targets -/
abbrev Tgt := PV → En → Option En
def setV (i : Nat) (x : SV) (env : En) : Option En := match env[i]? with
  | some (.lk _) => none
  | some _ => some (env.set i x)
  | none => none
def tgN (i : Nat) : Tgt := fun v env => setV i (.v v) env
def tgs : List Nat → List PV → En → Option En
  | [], [], env => some env
  | i :: is, v :: vs, env => (setV i (.v v) env).bind fun e => tgs is vs e
  | _, _, _ => none
def tgT (is : List Nat) : Tgt := fun v env => match v with
  | .tup xs => tgs is xs env
  | _ => none
section
variable (K : PySem.W.Frag) (C : Kx → Addr)
structure Chg (is : List Nat) (σ σ' : L2.St) : Prop where
  o : ∀ i : Nat, i ∉ is → σ'[i]? = σ[i]?
  l : σ'.length = σ.length
def rG (g : Tgt) (is : List Nat) : TG := fun x σ H Q => ∃ w env S v env', Sim K C w env S σ H ∧ Rep K C w.F w.ρ x v ∧ g v env = some env' ∧ ∀ σ', Sim K C w env' S σ' H → Chg is σ σ' → Q σ' H
def rGs (is : List Nat) : TGs := fun xs σ H Q => ∃ w env S vs env', Sim K C w env S σ H ∧ RepL K C w.F w.ρ xs vs ∧ tgs is vs env = some env' ∧ ∀ σ', Sim K C w env' S σ' H → Chg is σ σ' → Q σ' H
end
theorem _root_.L2.PG.imp {X : Cx} {tg : Expr} {t t' : TG} (h : PG X tg t) (hi : ∀ x σ H Q, t' x σ H Q → t x σ H Q) : PG X tg t' := ⟨fun pins s σ H v u Q I r q => h.run pins s σ H v u Q I r (hi _ _ _ _ q)⟩
theorem _root_.L2.PGs.imp {X : Cx} {tg : List Expr} {t t' : TGs} (h : PGs X tg t) (hi : ∀ x σ H Q, t' x σ H Q → t x σ H Q) : PGs X tg t' := ⟨fun pins s σ H v u Q I r q => h.run pins s σ H v u Q I r (hi _ _ _ _ q)⟩
section
variable {X : Cx} {C : Kx → Addr} {E : WX} {a b c e tg : Expr} {pos : Pos} {K : PySem.W.Frag} {w w' : Wd} {env env' : En} {S : Sto} {σ σ' : L2.St} {H : Hp}
theorem Chg.refl (is : List Nat) (σ : L2.St) : Chg is σ σ := ⟨fun _ _ => rfl, rfl⟩
theorem Chg.trans {is js ks : List Nat} {σ σ1 σ2 : L2.St} (a : Chg is σ σ1) (b : Chg js σ1 σ2) (h1 : ∀ i ∈ is, i ∈ ks) (h2 : ∀ i ∈ js, i ∈ ks) : Chg ks σ σ2 :=
  ⟨fun i hi => (b.o i fun h => hi (h2 i h)).trans (a.o i fun h => hi (h1 i h)), b.l.trans a.l⟩
theorem Chg.set {i : Nat} {x : Option V} : Chg [i] σ (σ.set i x) := ⟨fun j hj => List.getElem?_set_ne (by simpa using fun h : i = j => hj (by simp [h])), by simp⟩
theorem setV_some {i : Nat} {x : SV} (h : setV i x env = some env') : env' = env.set i x ∧ i < env.length := by
  unfold setV at h
  cases q : env[i]? with
  | none => rw [q] at h; cases h
  | some y =>
    rw [q] at h
    have hi := (List.getElem?_eq_some_iff.mp q).1
    cases y <;> cases h <;> exact ⟨rfl, hi⟩
/-- a slot gets what fits -/
theorem Sim.put (s : Sim K C w env S σ H) {i : Nat} {x : SV} {u : Option V} (h : setV i x env = some env') (r : SlotR K C w H i (some u) x)
    (d : ∀ (j : Nat) (y : SV) (a : Addr), j ≠ i → env[j]? = some y → y.mine = true → σ[j]? = some (some (.ref a)) → x.mine = true → u ≠ some (.ref a)) : Sim K C w env' S (σ.set i u) H := by
  obtain ⟨rfl, hi⟩ := setV_some h
  have hi' : i < σ.length := Nat.lt_of_lt_of_le hi s.le
  refine ⟨s.f, s.b, s.fb, s.lb, by simpa using s.le, fun j y e => ?_, fun j k x' y a e1 e2 m1 m2 q1 q2 => ?_, s.ln, s.nd, s.cl⟩
  · by_cases hj : j = i
    · subst hj
      rw [List.getElem?_set_self hi] at e
      cases e
      rw [List.getElem?_set_self hi']
      exact r
    · rw [List.getElem?_set_ne (Ne.symm hj)] at e ⊢
      exact s.sl j y e
  · by_cases hj : j = i
    · by_cases hk : k = i
      · rw [hj, hk]
      · subst hj
        rw [List.getElem?_set_self hi] at e1
        cases e1
        rw [List.getElem?_set_self hi'] at q1
        rw [List.getElem?_set_ne (Ne.symm hk)] at e2 q2
        exact absurd (Option.some.inj q1) (d k y a hk e2 m2 q2 m1)
    · by_cases hk : k = i
      · subst hk
        rw [List.getElem?_set_self hi] at e2
        cases e2
        rw [List.getElem?_set_self hi'] at q2
        rw [List.getElem?_set_ne (Ne.symm hj)] at e1 q1
        exact absurd (Option.some.inj q2) (d j x' a hj e1 m1 q1 m2)
      · rw [List.getElem?_set_ne (Ne.symm hj)] at e1 q1
        rw [List.getElem?_set_ne (Ne.symm hk)] at e2 q2
        exact s.od j k x' y a e1 e2 m1 m2 q1 q2
theorem Sim.putV (s : Sim K C w env S σ H) {i : Nat} {v : PV} {u : V} (h : setV i (.v v) env = some env') (r : Rep K C w.F w.ρ u v) : Sim K C w env' S (σ.set i (some u)) H :=
  s.put h ⟨u, rfl, r⟩ fun _ _ _ _ _ _ _ q => nomatch q
theorem g_name {i : Nat} {x : Str} (hN : X.N.Nodup) (hi : X.N[i]? = some x) (hx : Loc X.env.scope x) (hf : X.fn x = true ∨ X.env.scope.names.lookup x = some .local := by first | exact .inl rfl | exact .inr rfl | assumption) : PG X (.Name x pos) (rG X.K C (tgN i) [i]) := by
  refine (pg_name hN hi hx hf).imp ?_
  rintro x σ H Q ⟨w, env, S, v, env', s, r, h, q⟩
  exact q _ (s.putV h r) Chg.set
theorem gs_nil : PGs X [] (rGs X.K C []) := by
  refine pgs_nil.imp ?_
  rintro x σ H Q ⟨w, env, S, v, env', s, r, h, q⟩
  cases r with
  | nil => cases h; exact ⟨rfl, q _ s (Chg.refl _ _)⟩
  | cons _ _ => cases h
theorem gs_cons {i : Nat} {is : List Nat} {x : Str} {es : List Expr} (hN : X.N.Nodup) (hi : X.N[i]? = some x) (hx : Loc X.env.scope x) (h2 : PGs X es (rGs X.K C is)) (hf : X.fn x = true ∨ X.env.scope.names.lookup x = some .local := by first | exact .inl rfl | exact .inr rfl | assumption)
    (hs : (assignEach (.Name x pos :: es) X.env).map (·.2) = assign (.Name x pos) X.env :: (assignEach es X.env).map (·.2) := by rfl) : PGs X (.Name x pos :: es) (rGs X.K C (i :: is)) := by
  refine (pgs_cons (pg_name hN hi hx hf) h2 hs).imp ?_
  rintro xs σ H Q ⟨w, env, S, vs, env', s, r, h, q⟩
  cases r with
  | nil => cases h
  | cons r1 r2 =>
    unfold tgs at h
    obtain ⟨e1, h1, h3⟩ := Option.bind_eq_some_iff.mp h
    exact ⟨_, _, rfl, w, e1, S, _, env', s.putV h1 r1, r2, h3, fun σ' s' ch => q σ' s' (Chg.set.trans ch (by simp) (by intro j hj; simp [hj]))⟩
theorem tgs_len : ∀ {is : List Nat} {vs : List PV} {env env' : En}, tgs is vs env = some env' → vs.length = is.length
  | [], [], _, _, _ => rfl
  | [], _ :: _, _, _, h => by cases h
  | _ :: _, [], _, _, h => by cases h
  | i :: is, v :: vs, env, env', h => by
    unfold tgs at h
    obtain ⟨e1, _, h3⟩ := Option.bind_eq_some_iff.mp h
    simp [tgs_len h3]
theorem g_tup {es : List Expr} {k : Nat} {is : List Nat} {n : Nat} (hc : X.calm = true) (h : PGs X es (rGs X.K C is)) (hl : is.length = n := by rfl)
    (hn : (assignEach es X.env).length = n := by rfl) (hst : (assignEach es X.env).findIdx? (·.1) = none := by rfl) : PG X (.Tuple es k pos) (rG X.K C (tgT is) is) := by
  refine (pg_tup hc h hn hst).imp ?_
  rintro x σ H Q ⟨w, env, S, v, env', s, r, h, q⟩
  unfold tgT at h
  cases v with
  | tup xs =>
    cases r with
    | tup sq rl => exact ⟨_, _, rfl, SqT.le s.f sq, by rw [rl.length, tgs_len h, hl], w, env, S, xs, env', s, rl, h, q⟩
  | _ => cases h

/-- a target that stores to these slots alone -/
def TgOk (g : Tgt) (is : List Nat) : Prop := ∀ v env env', g v env = some env' → env'.length = env.length ∧ ∀ j, j ∉ is → env'[j]? = env[j]?
theorem tg_n (i : Nat) : TgOk (tgN i) [i] := fun v env env' h => by
  obtain ⟨rfl, hi⟩ := setV_some h
  exact ⟨by simp, fun j hj => List.getElem?_set_ne (by simpa using fun h : i = j => hj (by simp [h]))⟩
theorem tg_s : ∀ (is : List Nat) (vs : List PV) (env env' : En), tgs is vs env = some env' → env'.length = env.length ∧ ∀ j, j ∉ is → env'[j]? = env[j]?
  | [], [], _, _, h => by cases h; exact ⟨rfl, fun _ _ => rfl⟩
  | [], _ :: _, _, _, h => by cases h
  | _ :: _, [], _, _, h => by cases h
  | i :: is, v :: vs, env, env', h => by
    unfold tgs at h
    obtain ⟨e1, h1, h3⟩ := Option.bind_eq_some_iff.mp h
    obtain ⟨l, o⟩ := tg_s is vs e1 env' h3
    obtain ⟨rfl, hi⟩ := setV_some h1
    refine ⟨by simpa using l, fun j hj => ?_⟩
    rw [o j fun q => hj (by simp [q])]
    exact List.getElem?_set_ne fun h : i = j => hj (by simp [h])
theorem tg_t (is : List Nat) : TgOk (tgT is) is := fun v env env' h => by
  unfold tgT at h
  cases v with
  | tup xs => exact tg_s is xs env env' h
  | _ => cases h

/-! ### list comprehensions -/
def wipeE : List Nat → En → Option En
  | [], env => some env
  | i :: is, env => match env[i]? with
    | some (.own _) => none
    | some (.lk _) => none
    | _ => (wipeE is env).map fun e => e.set i .un
def lcLoop (g : Tgt) (c e : Ex) (env0 : En) : List PV → Sto → R (List PV)
  | [], S => .ok [] S
  | x :: xs, S => match g x env0 with
    | none => .bad
    | some env1 => (c env1 S).bind fun b S => match b with
      | .bl true => (e env1 S).bind fun y S => (lcLoop g c e env0 xs S).bind fun ys S => .ok (y :: ys) S
      | .bl false => lcLoop g c e env0 xs S
      | _ => .bad
def R.noex {α : Type} : R α → R α
  | .ok a S => .ok a S
  | _ => .bad
def eLC (it : Itx) (vs : List Nat) (g : Tgt) (c e : Ex) : Ex := fun env S => (it env S).bind fun xs S => match wipeE vs env with
  | none => .bad
  | some env0 => if xs.length ≤ 1000000 then ((lcLoop g c e env0 xs S).noex).bind fun ys S => .ok (.lst ys) S else .bad
def eYes : Ex := fun _ S => .ok (.bl true) S

theorem wipe_get (σ : L2.St) (i : Nat) : ∀ vs : List Nat, (wipe σ vs)[i]? = if i ∈ vs then (if i < σ.length then some none else none) else σ[i]?
  | [] => by simp [wipe]
  | v :: vs => by
    unfold wipe
    by_cases hv : v = i
    · subst hv
      by_cases hl : v < σ.length
      · rw [List.getElem?_set_self (by rw [wipe_length]; exact hl)]
        simp [hl]
      · rw [List.getElem?_eq_none (by simp [wipe_length]; omega)]
        simp [hl]
    · rw [List.getElem?_set_ne hv, wipe_get σ i vs]
      have e : i ≠ v := fun q => hv q.symm
      simp [e]
theorem Chg.wipe {is vs : List Nat} (h : Chg is (L2.wipe σ vs) σ') (hs : ∀ i ∈ is, i ∈ vs) : L2.wipe σ' vs = L2.wipe σ vs := by
  have hl : σ'.length = σ.length := by rw [h.l, wipe_length]
  refine List.ext_getElem? fun i => ?_
  rw [wipe_get, wipe_get, hl]
  by_cases hi : i ∈ vs
  · simp [hi]
  · rw [if_neg hi, if_neg hi, h.o i fun q => hi (hs i q), wipe_get, if_neg hi]
theorem wipeE_get : ∀ {vs : List Nat} {env env' : En}, wipeE vs env = some env' → env'.length = env.length ∧ ∀ i x, env'[i]? = some x → (x = .un ∧ i ∈ vs) ∨ (env[i]? = some x ∧ i ∉ vs)
  | [], env, env', h => by cases h; exact ⟨rfl, fun i x e => .inr ⟨e, by simp⟩⟩
  | v :: vs, env, env', h => by
    unfold wipeE at h
    have h' : (wipeE vs env).map (fun e => e.set v .un) = some env' := by
      cases q : env[v]? with
      | none => rw [q] at h; exact h
      | some y => rw [q] at h; cases y <;> first | exact h | cases h
    obtain ⟨e1, h1, rfl⟩ := Option.map_eq_some_iff.mp h'
    obtain ⟨hl, hg⟩ := wipeE_get h1
    refine ⟨by simp [hl], fun i x e => ?_⟩
    by_cases hv : v = i
    · subst hv
      by_cases hb : v < e1.length
      · rw [List.getElem?_set_self hb] at e; cases e; exact .inl ⟨rfl, by simp⟩
      · rw [List.getElem?_eq_none (by simpa using hb)] at e; cases e
    · rw [List.getElem?_set_ne hv] at e
      have hv' : i ≠ v := fun q => hv q.symm
      rcases hg i x e with ⟨a, b⟩ | ⟨a, b⟩
      · exact .inl ⟨a, by simp [b]⟩
      · exact .inr ⟨a, by simp [hv', b]⟩
/-- what was wiped was plain -/
theorem wipeE_plain : ∀ {vs : List Nat} {env env' : En}, wipeE vs env = some env' → ∀ i ∈ vs, ∀ x, env[i]? = some x → x.mine = false ∧ ∀ y, x ≠ .lk y
  | [], _, _, _, _, hi, _, _ => nomatch hi
  | v :: vs, env, env', h, i, hi, x, e => by
    unfold wipeE at h
    rcases List.mem_cons.mp hi with rfl | hi
    · rw [e] at h
      cases x with
      | un => exact ⟨rfl, fun _ q => nomatch q⟩
      | v y => exact ⟨rfl, fun _ q => nomatch q⟩
      | own y => cases h
      | lk y => cases h
    · have h' : ∃ e1, wipeE vs env = some e1 := by
        have h' : (wipeE vs env).map (fun e => e.set v .un) = some env' := by
          cases q : env[v]? with
          | none => rw [q] at h; exact h
          | some y => rw [q] at h; cases y <;> first | exact h | cases h
        obtain ⟨e1, h1, _⟩ := Option.map_eq_some_iff.mp h'
        exact ⟨e1, h1⟩
      obtain ⟨e1, h1⟩ := h'
      exact wipeE_plain h1 i hi x e
/-- into a block: the block's own slots forgotten -/
theorem Sim.wipe (s : Sim K C w env S σ H) {vs : List Nat} {env0 : En} (h : wipeE vs env = some env0) : Sim K C w env0 S (L2.wipe σ vs) H := by
  obtain ⟨hl, hg⟩ := wipeE_get h
  refine ⟨s.f, s.b, s.fb, s.lb, by rw [hl, wipe_length]; exact s.le, fun i x e => ?_, fun i j x y a e1 e2 m1 m2 q1 q2 => ?_, s.ln, s.nd, s.cl⟩
  · rcases hg i x e with ⟨rfl, _⟩ | ⟨h1, h2⟩
    · trivial
    · rw [wipe_get, if_neg h2]; exact s.sl i x h1
  · have out : ∀ i x, env0[i]? = some x → x.mine = true → env[i]? = some x ∧ i ∉ vs := fun i x e m => by
      rcases hg i x e with ⟨rfl, _⟩ | z
      · cases m
      · exact z
    obtain ⟨a1, b1⟩ := out i x e1 m1
    obtain ⟨a2, b2⟩ := out j y e2 m2
    rw [wipe_get, if_neg b1] at q1
    rw [wipe_get, if_neg b2] at q2
    exact s.od i j x y a a1 a2 m1 m2 q1 q2
/-- from a turn of a block back to its head -/
theorem Sim.back {env0 env1 : En} {σ2 : L2.St} {vs is : List Nat} {e0 : En} (hw : wipeE vs e0 = some env0) (s : Sim K C w env1 S σ2 H) (hl : env1.length = env0.length) (he : ∀ j, j ∉ is → env1[j]? = env0[j]?) (ch : Chg is (L2.wipe σ vs) σ2) (his : ∀ i ∈ is, i ∈ vs) : Sim K C w env0 S (L2.wipe σ vs) H := by
  have pl : ∀ i x, env0[i]? = some x → (x = .un) ∨ (env1[i]? = some x ∧ i ∉ vs) := fun i x e => by
    rcases (wipeE_get hw).2 i x e with ⟨h, _⟩ | ⟨h1, h2⟩
    · exact .inl h
    · exact .inr ⟨by rw [he i fun q => h2 (his i q)]; exact e, h2⟩
  have es : ∀ i, i ∉ vs → (L2.wipe σ vs)[i]? = σ2[i]? := fun i h => (ch.o i fun q => h (his i q)).symm
  refine ⟨s.f, s.b, s.fb, s.lb, by rw [← hl, ← ch.l]; exact s.le, fun i x e => ?_, fun i j x y a e1 e2 m1 m2 q1 q2 => ?_, s.ln, s.nd, s.cl⟩
  · rcases pl i x e with rfl | ⟨h1, h2⟩
    · trivial
    · rw [es i h2]; exact s.sl i x h1
  · rcases pl i x e1 with rfl | ⟨h1, h2⟩
    · cases m1
    · rcases pl j y e2 with rfl | ⟨h3, h4⟩
      · cases m2
      · exact s.od i j x y a h1 h3 m1 m2 (by rw [← es i h2]; exact q1) (by rw [← es j h4]; exact q2)
/-- out of a block -/
theorem Sim.unwipe {S' : Sto} {H' : Hp} (s : Sim K C w env S σ H) (le : w.le w') {vs : List Nat} {env0 : En} (h : wipeE vs env = some env0) (s' : Sim K C w' env0 S' (L2.wipe σ vs) H') : Sim K C w' env S' σ H' := by
  obtain ⟨hl, hg⟩ := wipeE_get h
  have ge : ∀ i x, env[i]? = some x → i ∉ vs → env0[i]? = some x := fun i x e hi => by
    have hlt : i < env0.length := by rw [hl]; exact (List.getElem?_eq_some_iff.mp e).1
    rcases hg i _ (List.getElem?_eq_getElem hlt) with ⟨_, z⟩ | ⟨z, _⟩
    · exact absurd z hi
    · rw [List.getElem?_eq_getElem hlt, ← z]; exact e
  refine ⟨s'.f, s'.b, s'.fb, s'.lb, s.le, fun i x e => ?_, fun i j x y a e1 e2 m1 m2 q1 q2 => ?_, s'.ln, s'.nd, s'.cl⟩
  · by_cases hi : i ∈ vs
    · obtain ⟨p1, p2⟩ := wipeE_plain h i hi x e
      have z := s.sl i x e
      cases x with
      | un => trivial
      | v y => obtain ⟨u, h1, h2⟩ := z; exact ⟨u, h1, RepW.up le h2⟩
      | own y => cases p1
      | lk y => exact absurd rfl (p2 y)
    · have z := s'.sl i x (ge i x e hi)
      rw [wipe_get, if_neg hi] at z
      exact z
  · have out : ∀ i x, env[i]? = some x → x.mine = true → i ∉ vs := fun i x e m hi => by
      rw [(wipeE_plain h i hi x e).1] at m; cases m
    have b1 := out i x e1 m1
    have b2 := out j y e2 m2
    refine s'.od i j x y a (ge i x e1 b1) (ge j y e2 b2) m1 m2 ?_ ?_
    · rw [wipe_get, if_neg b1]; exact q1
    · rw [wipe_get, if_neg b2]; exact q2
end
end Hw

set_option maxRecDepth 100000
set_option maxHeartbeats 4000000
namespace Hw
open PySem PySem.Spec L2
abbrev Wd.prot (w : Wd) (p : Addr) (o : HO) : Wd := { w with B := upd w.B p o }
section
variable {X : Cx} {C : Kx → Addr} {E : WX} {a b c e tg : Expr} {pos : Pos} {K : PySem.W.Frag} {w w' : Wd} {env env' : En} {S S' : Sto} {σ σ' : L2.St} {H H' : Hp} {p : Addr} {o : HO}
theorem ObjR.off {q : Addr} {x : PV} (r : ObjR K C w H q x) (h : q ≠ p) (o : HO) : ObjR K C w (upd H p o) q x := r.up (Wd.le.refl _) fun _ e => by rw [upd_ne h]; exact e
theorem ObjR.same {w' : Wd} (hf : w'.F = w.F) (hr : w'.ρ = w.ρ) {q : Addr} {x : PV} (r : ObjR K C w H q x) : ObjR K C w' H q x := by
  cases x with
  | lst xs => obtain ⟨vs, e, r⟩ := r; exact ⟨vs, e, by rw [hf, hr]; exact r⟩
  | dI xs => obtain ⟨vs, e, r⟩ := r; exact ⟨vs, e, by rw [hf, hr]; exact r⟩
  | dT xs => obtain ⟨vs, e, r⟩ := r; exact ⟨vs, e, by rw [hf, hr]; exact r⟩
  | _ => exact r.elim
theorem LkR.same {w' : Wd} (hf : w'.F = w.F) (hr : w'.ρ = w.ρ) {q : Addr} {x : PV} {B B' : Hp} (hb : B' q = B q) (r : LkR K C w B q x) : LkR K C w' B' q x := by
  cases x with
  | lst xs => obtain ⟨vs, e, r⟩ := r; exact ⟨vs, hb.trans e, by rw [hf, hr]; exact r⟩
  | dI xs => obtain ⟨o, vs, e, r⟩ := r; exact ⟨o, vs, hb.trans e, by rw [hf, hr]; exact r⟩
  | dT xs => obtain ⟨o, vs, e, r⟩ := r; exact ⟨o, vs, hb.trans e, by rw [hf, hr]; exact r⟩
  | _ => exact r.elim
/-- something else may change -/
theorem Sim.free (s : Sim K C w env S σ H) (fr : Fr1 w p) (nm : NotMine env σ p) (o : HO) : Sim K C w env S σ (upd H p o) := by
  refine ⟨fun q u e => ?_, fun q u e => ?_, s.fb, s.lb, s.le, fun i x e => ?_, s.od, s.ln, s.nd, fun n c q e1 e2 => ?_⟩
  · rw [upd_ne (fun h => by subst h; rw [fr.f] at e; cases e)]; exact s.f _ _ e
  · rw [upd_ne (fun h => by subst h; rw [fr.b] at e; cases e)]; exact s.b _ _ e
  · have z := s.sl i x e
    cases x with
    | own y =>
      obtain ⟨q, h1, h2, h3⟩ := z
      exact ⟨q, h1, h2, h3.off (fun h => nm i _ e rfl (by rw [← h]; exact h1)) o⟩
    | _ => exact z
  · obtain ⟨h1, h2, h3⟩ := s.cl n c q e1 e2
    exact ⟨h1, h2, h3.off (fun h => fr.r (by rw [← h]; exact List.mem_of_getElem? e2)) o⟩
theorem prot_same : (w.prot p o).B p = some o := upd_same
theorem prot_ne {q : Addr} (h : q ≠ p) : (w.prot p o).B q = w.B q := upd_ne h
theorem Sim.prot (s : Sim K C w env S σ H) (fr : Fr1 w p) (nm : NotMine env σ p) (e : H p = some o) : Sim K C (w.prot p o) env S σ H := by
  have ne : ∀ {q : Addr} {u : HO}, w.B q = some u → q ≠ p := fun {q u} e h => by rw [h, fr.b] at e; cases e
  have bu : ∀ q, (w.prot p o).B q = if q = p then some o else w.B q := fun q => rfl
  refine ⟨s.f, fun q u z => ?_, fun q u z => ?_, fun i q z => ?_, s.le, fun i x z => ?_, s.od, s.ln, s.nd, fun n c q e1 e2 => ?_⟩
  · by_cases h : q = p
    · subst h; rw [prot_same] at z; rw [← z]; exact e
    · rw [prot_ne h] at z; exact s.b _ _ z
  · by_cases h : q = p
    · subst h; exact .inl fr.f
    · rw [prot_ne h] at z; exact s.fb _ _ z
  · by_cases h : q = p
    · subst h; rw [prot_same]; simp
    · rw [prot_ne h]; exact s.lb i q z
  · have z0 := z
    have z := s.sl i x z
    cases x with
    | own y =>
      obtain ⟨q, h1, h2, h3⟩ := z
      exact ⟨q, h1, ⟨h2.f, by rw [prot_ne (fun h => nm i _ z0 rfl (by rw [← h]; exact h1))]; exact h2.b, h2.r⟩, h3.same rfl rfl⟩
    | lk y =>
      obtain ⟨q, h0, h1, h2⟩ := z
      refine ⟨q, h0, h1, h2.same rfl rfl (prot_ne fun h => ?_)⟩
      obtain ⟨u, hu⟩ := h2.there
      exact ne hu h
    | _ => exact z
  · obtain ⟨h1, h2, h3⟩ := s.cl n c q e1 e2
    exact ⟨h1, by rw [prot_ne (fun h => fr.r (by rw [← h]; exact List.mem_of_getElem? e2))]; exact h2, h3.same rfl rfl⟩
theorem Sim.unprot (s : Sim K C (w.prot p o) env S σ H) (hb : w.B p = none) (ho : ∀ xs, o ≠ .tup xs) (hL : ∀ i, w.L i ≠ some p) : Sim K C w env S σ H ∧ Fr1 w p ∧ NotMine env σ p ∧ H p = some o := by
  have hp : H p = some o := s.b p o upd_same
  have fp : w.F p = none := by
    rcases s.fb p o upd_same with h | ⟨xs, h⟩
    · exact h
    · exact absurd h (ho xs)
  have ne : ∀ {q : Addr} {u : HO}, w.B q = some u → q ≠ p := fun {q u} e h => by rw [h, hb] at e; cases e
  have bs : ∀ {q : Addr}, (w.prot p o).B q = none → w.B q = none := fun {q} e => by
    by_cases h : q = p
    · subst h; exact hb
    · rw [prot_ne h] at e; exact e
  refine ⟨⟨s.f, fun q u z => s.b q u (by rw [prot_ne (ne z)]; exact z), fun q u z => s.fb q u (by rw [prot_ne (ne z)]; exact z), fun i q z => ?_, s.le, fun i x z => ?_, s.od, s.ln, s.nd, fun n c q e1 e2 => ?_⟩, ⟨fp, hb, fun hm => ?_⟩, fun i x z m q => ?_, hp⟩
  · have h : q ≠ p := fun h => hL i (by rw [← h]; exact z)
    have z2 := s.lb i q z
    rw [prot_ne h] at z2
    exact z2
  · have z := s.sl i x z
    cases x with
    | own y =>
      obtain ⟨q, h1, h2, h3⟩ := z
      exact ⟨q, h1, ⟨h2.f, bs h2.b, h2.r⟩, h3.same rfl rfl⟩
    | lk y =>
      obtain ⟨q, h0, h1, h2⟩ := z
      exact ⟨q, h0, h1, h2.same rfl rfl (prot_ne fun h => hL i (by rw [← h]; exact h0)).symm⟩
    | _ => exact z
  · obtain ⟨h1, h2, h3⟩ := s.cl n c q e1 e2
    exact ⟨h1, bs h2, h3.same rfl rfl⟩
  · obtain ⟨n, hn⟩ := List.getElem?_of_mem hm
    have hlt := (List.getElem?_eq_some_iff.mp hn).1
    rw [s.ln] at hlt
    obtain ⟨_, h2, _⟩ := s.cl n _ p (List.getElem?_eq_getElem hlt) hn
    rw [prot_same] at h2; cases h2
  · have z := s.sl i x z
    cases x with
    | own y =>
      obtain ⟨q', h1, h2, h3⟩ := z
      rw [q] at h1
      have h1 : p = q' := by injection h1 with h1; injection h1 with h1; injection h1
      subst h1
      have h4 := h2.b
      rw [prot_same] at h4; cases h4
    | _ => cases m
theorem Wd.le.unprot {w : Wd} {o' : HO} (le : (w.prot p o).le w') : ∃ w1, w.le w1 ∧ w' = w1.prot p o ∧ w1.B = w.B ∧ w1.L = w.L ∧ w1.F = w'.F ∧ w1.ρ = w'.ρ := by
  refine ⟨{ w' with B := w.B }, ⟨le.f, rfl, le.l, le.r⟩, ?_, rfl, le.l, rfl, rfl⟩
  have e := le.b
  cases w'
  simp only at e
  subst e
  rfl
theorem lc_rd {E' : WX} {it : Itx} {g : Tgt} {is : List Nat} {dc de : Ex} {vs : List Nat} (htg : TgOk g is) (his : ∀ i ∈ is, i ∈ vs) {σ : L2.St} {H : Hp} {Q : VK} (q : rN X.K C E (eLC it vs g dc de) σ H Q) :
    tLc (rIt X.K C E it) (rG X.K C g is) (rT X.K C E' dc) (rE X.K C E' de) vs σ H Q := by
  obtain ⟨w, env, S, s, h⟩ := q
  unfold eLC at h
  refine ⟨w, env, S, s, h.bind.mono fun xs S1 w1 H1 le1 s1 h1 J fd D hD => ?_⟩
  cases hw : wipeE vs env with
  | none => rw [hw] at h1; exact h1.elim
  | some env0 =>
    rw [hw] at h1
    have h1 : Wp X.K C E w1 env σ (if xs.length ≤ 1000000 then ((lcLoop g dc de env0 xs S1).noex).bind fun ys S => R.ok (PV.lst ys) S else R.bad) (fun v _ w' H' => ∀ p, Fr1 w' p → NotMine env σ p → ObjR X.K C w' H' p v → Q (.ref p) H') := h1
    split at h1
    rotate_left
    · exact h1.elim
    rename_i hlen
    cases hr : lcLoop g dc de env0 xs S1 with
    | ex c S' => rw [hr] at h1; exact h1.elim
    | bad => rw [hr] at h1; exact h1.elim
    | ok ys Sf =>
      rw [hr] at h1
      have h1 : ∀ w' H', w1.le w' → Sim X.K C w' env Sf σ H' → ∀ p, Fr1 w' p → NotMine env σ p → ObjR X.K C w' H' p (.lst ys) → Q (.ref p) H' := h1
      have hLp : ∀ i, w1.L i ≠ some D := fun i z => by
        have q := s1.lb i D z
        cases hb : w1.B D with
        | none => exact q hb
        | some u => rw [s1.b _ _ hb] at hD; cases hD
      -- the invariant
      refine ⟨fun i m H => m = xs.length - i ∧ i ≤ xs.length ∧ ∃ w2 S2 acc us ys2, w1.le w2 ∧ Sim X.K C (w2.prot D (.lst acc)) env0 S2 (L2.wipe σ vs) H ∧ RepL X.K C w2.F w2.ρ acc us ∧ w2.B D = none ∧ acc.length ≤ i ∧
        lcLoop g dc de env0 (xs.drop i) S2 = .ok ys2 Sf ∧ us ++ ys2 = ys, ⟨_, rfl, Nat.zero_le _, w1, S1, [], [], ys, Wd.le.refl _, ?_, .nil, s1.b.gone hD, Nat.zero_le _, hr, rfl⟩, ?_⟩
      · obtain ⟨s2, fr, nm⟩ := s1.loose (o := .lst []) hD
        exact ((s2.wipe hw).prot fr (fun i x e m => by
          rcases (wipeE_get hw).2 i x e with ⟨rfl, _⟩ | ⟨h1, h2⟩
          · cases m
          · rw [wipe_get, if_neg h2]; exact nm i x h1 m) upd_same)
      rintro i m H2 ⟨rfl, hil, w2, S2, acc, us, ys2, le2, s2, rl, hB, hal, hlc, hys⟩
      have lep : w1.le w2 := le2
      have fdi := fd (w2.prot D (.lst acc)) H2
      have hL2 : ∀ i, w2.L i ≠ some D := fun i => by rw [le2.l]; exact hLp i
      by_cases hlt : i < xs.length
      · -- a turn
        have hx : xs[i]? = some xs[i] := List.getElem?_eq_getElem hlt
        have hdrop : xs.drop i = xs[i] :: xs.drop (i + 1) := List.drop_eq_getElem_cons hlt
        rw [hdrop] at hlc
        unfold lcLoop at hlc
        have fd2 : J.go i H2 ∧ ∀ x H3, J.yld i H2 x H3 → ∃ F3, Grow w2.F H2 F3 H3 ∧ Rep X.K C F3 w2.ρ x xs[i] :=
          ((fd.up le2) w2 H2 (Wd.le.refl _) s2.f (fun q u z => s2.b q u (by rw [prot_ne (fun h => by rw [h, hB] at z; cases z)]; exact z))).1 i _ hx
        refine .inr ⟨fd2.1, fun H' => (fun i m H => m = xs.length - i ∧ i ≤ xs.length ∧ ∃ w2 S2 acc us ys2, w1.le w2 ∧ Sim X.K C (w2.prot D (.lst acc)) env0 S2 (L2.wipe σ vs) H ∧ RepL X.K C w2.F w2.ρ acc us ∧ w2.B D = none ∧ acc.length ≤ i ∧
          lcLoop g dc de env0 (xs.drop i) S2 = .ok ys2 Sf ∧ us ++ ys2 = ys) (i + 1) (xs.length - (i + 1)) H', fun H' z => ⟨_, by omega, z⟩, fun x H3 hy => ?_⟩
        obtain ⟨F3, gr, rx⟩ := fd2.2 x H3 hy
        obtain ⟨s3, le3⟩ := s2.grow gr
        cases hgx : g xs[i] env0 with
        | none => rw [hgx] at hlc; cases hlc
        | some env1 =>
          rw [hgx] at hlc
          dsimp only at hlc
          refine ⟨_, env0, S2, xs[i], env1, s3, rx, hgx, fun σ2 s4 ch => ⟨ch.wipe his, ?_⟩⟩
          refine ⟨_, env1, S2, s4, ?_⟩
          cases hcv : dc env1 S2 with
          | ex c S' => rw [hcv] at hlc; cases hlc
          | bad => rw [hcv] at hlc; cases hlc
          | ok bv S5 =>
            rw [hcv] at hlc
            intro w5 H5 le5 s5
            -- back from the turn to the block's head
            have back : ∀ (w6 : Wd) (S6 : Sto) (H6 : Hp), ({ w2.prot D (.lst acc) with F := F3 } : Wd).le w6 → Sim X.K C w6 env1 S6 σ2 H6 → ∃ w7, w2.le w7 ∧ w6 = w7.prot D (.lst acc) ∧ w7.B = w2.B ∧ Sim X.K C (w7.prot D (.lst acc)) env0 S6 (L2.wipe σ vs) H6 := fun w6 S6 H6 le6 s6 => by
              obtain ⟨w7, l7, e7, b7, _, f7, r7⟩ := Wd.le.unprot (o' := .lst acc) (le3.trans le6)
              obtain ⟨tl, to⟩ := htg _ _ _ hgx
              refine ⟨w7, l7, e7, b7, ?_⟩
              rw [← e7]
              exact Sim.back hw s6 tl to ch his
            cases bv with
            | bl k =>
              refine ⟨k, rfl, ?_⟩
              cases k with
              | false =>
                rw [if_neg Bool.false_ne_true]
                obtain ⟨w7, l7, e7, b7, s7⟩ := back w5 S5 H5 le5 s5
                exact ⟨rfl, hlt, w7, S5, acc, us, ys2, le2.trans l7, s7, RepL.le l7.f (fun _ _ e => l7.get e) rl, by rw [b7]; exact hB, by omega, hlc, hys⟩
              | true =>
                rw [if_pos rfl]
                have hlc : (de env1 S5).bind (fun y S => (lcLoop g dc de env0 (xs.drop (i + 1)) S).bind fun ys S => .ok (y :: ys) S) = .ok ys2 Sf := hlc
                refine ⟨w5, env1, S5, s5, ?_⟩
                cases hev : de env1 S5 with
                | ex c S' => rw [hev] at hlc; cases hlc
                | bad => rw [hev] at hlc; cases hlc
                | ok y S6 =>
                  rw [hev] at hlc
                  intro w6 H6 le6 s6 yv ry
                  obtain ⟨w7, l7, e7, b7, s7⟩ := back w6 S6 H6 (le5.trans le6) s6
                  have hB7 : w7.B D = none := by rw [b7]; exact hB
                  obtain ⟨s8, fr8, nm8, hp8⟩ := s7.unprot hB7 (fun _ z => nomatch z) (fun i => by rw [l7.l]; exact hL2 i)
                  refine ⟨acc, hp8, Nat.lt_of_le_of_lt (Nat.le_trans hal (Nat.le_of_lt (Nat.lt_of_lt_of_le hlt hlen))) (by decide), ?_⟩
                  have hlc : (lcLoop g dc de env0 (xs.drop (i + 1)) S6).bind (fun ys S => .ok (y :: ys) S) = .ok ys2 Sf := hlc
                  cases hr2 : lcLoop g dc de env0 (xs.drop (i + 1)) S6 with
                  | ex c S' => rw [hr2] at hlc; cases hlc
                  | bad => rw [hr2] at hlc; cases hlc
                  | ok ys3 Sg =>
                    rw [hr2] at hlc
                    have hlc : R.ok (y :: ys3) Sg = R.ok ys2 Sf := hlc
                    injection hlc with q1 q2
                    subst q2
                    subst q1
                    refine ⟨rfl, hlt, w7, S6, acc ++ [yv], us ++ [y], ys3, le2.trans l7, ?_, ?_, hB7, by rw [List.length_append]; show acc.length + 1 ≤ i + 1; omega, hr2, by rw [List.append_assoc]; exact hys⟩
                    · exact ((s8.free fr8 nm8 (.lst (acc ++ [yv]))).prot fr8 nm8 upd_same)
                    · refine (RepL.le l7.f (fun _ _ e => l7.get e) rl).append (.cons ?_ .nil)
                      rw [e7] at ry
                      exact ry
            | _ => cases hlc
      · have e : i = xs.length := by omega
        subst e
        rw [List.drop_length] at hlc
        cases hlc
        obtain ⟨s3, fr, nm, hp⟩ := s2.unprot hB (fun _ z => nomatch z) hL2
        have s4 := s1.unwipe le2 hw s3
        refine .inl ⟨((fd.up le2) w2 H2 (Wd.le.refl _) s3.f s3.b).2, h1 w2 H2 le2 s4 D fr (fun i x z m q => ?_) ⟨acc, hp, by rw [← hys, List.append_nil]; exact rl⟩⟩
        have hi : i ∉ vs := fun hi => by
          rw [(wipeE_plain hw i hi x z).1] at m; cases m
        have hlt' : i < env0.length := by rw [(wipeE_get hw).1]; exact (List.getElem?_eq_some_iff.mp z).1
        rcases (wipeE_get hw).2 i _ (List.getElem?_eq_getElem hlt') with ⟨_, y⟩ | ⟨y, _⟩
        · exact hi y
        · refine nm i x (by rw [List.getElem?_eq_getElem hlt', ← y]; exact z) m ?_
          rw [wipe_get, if_neg hi]; exact q
/-- .. the new object -/
theorem h_lcN {E' : WX} {elt iter : Expr} {ifs : List Expr} {scope : Scope} {own : List (Str × Nat)} {it : Itx} {g : Tgt} {is : List Nat} {dc de : Ex} (hc : X.calm = true) (hN : X.N.Nodup) (hi : PI X tg iter (rIt X.K C E it)) (ok : BlkOk X.N X.env.scope scope own)
    (hg : ∀ (s : Shared) (H : Hp) (Ca : Addr) (cl : List (Str × Addr)) (fp : List Addr), PG (X.blk s H scope (compEnvC scope cl Ca X.env) fp) tg (rG X.K C g is)) (ht : ∀ (s : Shared) (H : Hp) (Ca : Addr) (cl : List (Str × Addr)) (fp : List Addr), PTs (X.blk s H scope (compEnvC scope cl Ca X.env) fp) ifs (rT X.K C E' dc))
    (he : ∀ (s : Shared) (H : Hp) (Ca : Addr) (cl : List (Str × Addr)) (fp : List Addr), PE (X.blk s H scope (compEnvC scope cl Ca X.env) fp) elt (rE X.K C E' de)) (htg : TgOk g is) (his : ∀ i ∈ is, i ∈ own.map (·.2) := by decide) (hs : ∀ x, foldedSetIterable iter X.env x = pure x := by intro _; rfl) :
    PE X (.ListComp elt [⟨tg, iter, ifs, 0⟩] scope pos) (rN X.K C E (eLC it (own.map (·.2)) g dc de)) :=
  (pe_lc hc hN hi ok hg ht he hs).imp fun σ H Q q => lc_rd htg his q
theorem h_lc {E' : WX} {elt iter : Expr} {ifs : List Expr} {scope : Scope} {own : List (Str × Nat)} {it : Itx} {g : Tgt} {is : List Nat} {dc de : Ex} (hc : X.calm = true) (hN : X.N.Nodup) (hi : PI X tg iter (rIt X.K C E it)) (ok : BlkOk X.N X.env.scope scope own)
    (hg : ∀ (s : Shared) (H : Hp) (Ca : Addr) (cl : List (Str × Addr)) (fp : List Addr), PG (X.blk s H scope (compEnvC scope cl Ca X.env) fp) tg (rG X.K C g is)) (ht : ∀ (s : Shared) (H : Hp) (Ca : Addr) (cl : List (Str × Addr)) (fp : List Addr), PTs (X.blk s H scope (compEnvC scope cl Ca X.env) fp) ifs (rT X.K C E' dc))
    (he : ∀ (s : Shared) (H : Hp) (Ca : Addr) (cl : List (Str × Addr)) (fp : List Addr), PE (X.blk s H scope (compEnvC scope cl Ca X.env) fp) elt (rE X.K C E' de)) (htg : TgOk g is) (his : ∀ i ∈ is, i ∈ own.map (·.2) := by decide) (hs : ∀ x, foldedSetIterable iter X.env x = pure x := by intro _; rfl) :
    PE X (.ListComp elt [⟨tg, iter, ifs, 0⟩] scope pos) (rE X.K C E (eLC it (own.map (·.2)) g dc de)) :=
  h_fz (h_lcN hc hN hi ok hg ht he htg his hs) fun env S v S' e => by
    unfold eLC at e
    cases h1 : it env S with
    | ex c S1 => rw [h1] at e; cases e
    | bad => rw [h1] at e; cases e
    | ok xs S1 =>
      rw [h1] at e
      simp only [R.bind] at e
      split at e
      · cases e
      · rename_i env0 _
        split at e
        · cases h2 : (lcLoop g dc de env0 xs S1).noex with
          | ex c S1 => rw [h2] at e; cases e
          | bad => rw [h2] at e; cases e
          | ok ys S2 => rw [h2] at e; cases e; exact ⟨_, rfl⟩
        · cases e
end
end Hw

set_option maxRecDepth 100000
set_option maxHeartbeats 4000000
namespace Hw
open PySem PySem.Spec L2

/-! ### statements -/
section
variable (K : PySem.W.Frag) (C : Kx → Addr) (E : WX)
def SpR (D : Ends) (w : Wd) : RS → Prop
  | .nx env' S' => ∀ w' H' σ', w.le w' → Sim K C w' env' S' σ' H' → D.nx σ' H'
  | .rt v S' => ∀ w' H' x, w.le w' → Sim K C w' [] S' [] H' → Rep K C w'.F w'.ρ x v → D.rt x H'
  | .bk env' S' => ∀ w' H' σ', w.le w' → Sim K C w' env' S' σ' H' → D.bk σ' H'
  | .ct env' S' => ∀ w' H' σ', w.le w' → Sim K C w' env' S' σ' H' → D.ct σ' H'
  | .ex c env' S' => ∀ w' H' σ', w.le w' → Sim K C w' env' S' σ' H' → E (.ref (C c)) none σ' H'
  | .bad => False
def rS (d : Sm) : TS := fun D σ H => ∃ w env S, Sim K C w env S σ H ∧ SpR K C E D w (d env S)
end
def sNil : Sm := fun env S => .nx env S
def sSeq (a b : Sm) : Sm := fun env S => match a env S with
  | .nx env S => b env S
  | r => r
def sEx (a : Ex) : Sm := fun env S => match a env S with
  | .ok _ S => .nx env S
  | .ex c S => .ex c env S
  | .bad => .bad
def sRet (a : Ex) : Sm := fun env S => match a env S with
  | .ok v S => .rt v S
  | .ex c S => .ex c env S
  | .bad => .bad
def sPut (g : Tgt) (a : Ex) : Sm := fun env S => match a env S with
  | .ok v S => match g v env with
    | some env => .nx env S
    | none => .bad
  | .ex c S => .ex c env S
  | .bad => .bad
def sOwn (i : Nat) (a : Ex) : Sm := fun env S => match a env S with
  | .ok v S => match setV i (.own v) env with
    | some env => .nx env S
    | none => .bad
  | .ex c S => .ex c env S
  | .bad => .bad
def sIf (c : Ex) (a b : Sm) : Sm := fun env S => match c env S with
  | .ok (.bl true) S => a env S
  | .ok (.bl false) S => b env S
  | .ok _ _ => .bad
  | .ex c S => .ex c env S
  | .bad => .bad
def forLoop (g : Tgt) (body : Sm) : List PV → En → Sto → RS
  | [], env, S => .nx env S
  | x :: xs, env, S => match g x env with
    | none => .bad
    | some env => match body env S with
      | .nx env S => forLoop g body xs env S
      | .ct env S => forLoop g body xs env S
      | .bk env S => .nx env S
      | r => r
def sFor (it : Itx) (g : Tgt) (body : Sm) : Sm := fun env S => match it env S with
  | .ok xs S => forLoop g body xs env S
  | .ex c S => .ex c env S
  | .bad => .bad
def whileLoop (c : Ex) (body : Sm) : Nat → En → Sto → RS
  | 0, _, _ => .bad
  | n + 1, env, S => match c env S with
    | .ok (.bl true) S => match body env S with
      | .nx env S => whileLoop c body n env S
      | .ct env S => whileLoop c body n env S
      | .bk env S => .nx env S
      | r => r
    | .ok (.bl false) S => .nx env S
    | .ok _ _ => .bad
    | .ex c S => .ex c env S
    | .bad => .bad
def fuel : Nat := 1000000
def sWhile (c : Ex) (body : Sm) : Sm := fun env S => whileLoop c body fuel env S
def sBreak : Sm := fun env S => .bk env S
def sRaise (c : Kx) : Sm := fun env S => .ex c env S

section
variable {X : Cx} {C : Kx → Addr} {E : WX} {a b c e tg : Expr} {da db dc : Ex} {sa sb sc : Sm} {pos : Pos} {st : Stmt} {sts : List Stmt} {K : PySem.W.Frag} {w w' : Wd} {env env' : En} {S S' : Sto} {σ σ' : L2.St} {H H' : Hp} {D : Ends}
theorem Sim.drop (s : Sim K C w env S σ H) : Sim K C w [] S [] H := ⟨s.f, s.b, s.fb, s.lb, Nat.le_refl _, fun _ _ e => (by simp at e), fun _ _ _ _ _ e => (by simp at e), s.ln, s.nd, s.cl⟩
theorem SpR.up {r : RS} (h : SpR K C E D w r) (le : w.le w') : SpR K C E D w' r := by
  cases r with
  | nx e s => exact fun w2 H2 σ2 l => h w2 H2 σ2 (le.trans l)
  | rt v s => exact fun w2 H2 x l => h w2 H2 x (le.trans l)
  | bk e s => exact fun w2 H2 σ2 l => h w2 H2 σ2 (le.trans l)
  | ct e s => exact fun w2 H2 σ2 l => h w2 H2 σ2 (le.trans l)
  | ex c e s => exact fun w2 H2 σ2 l => h w2 H2 σ2 (le.trans l)
  | bad => exact h
/-- the same ends but one -/
theorem SpR.mono {r : RS} {D' : Ends} (h : SpR K C E D w r) (h1 : ∀ σ H, D.nx σ H → D'.nx σ H) (h2 : ∀ x H, D.rt x H → D'.rt x H) (h3 : ∀ σ H, D.bk σ H → D'.bk σ H) (h4 : ∀ σ H, D.ct σ H → D'.ct σ H) : SpR K C E D' w r := by
  cases r with
  | nx e s => exact fun w2 H2 σ2 l q => h1 _ _ (h w2 H2 σ2 l q)
  | rt v s => exact fun w2 H2 x l q r => h2 _ _ (h w2 H2 x l q r)
  | bk e s => exact fun w2 H2 σ2 l q => h3 _ _ (h w2 H2 σ2 l q)
  | ct e s => exact fun w2 H2 σ2 l q => h4 _ _ (h w2 H2 σ2 l q)
  | ex c e s => exact h
  | bad => exact h
/-- an expression ahead of what follows -/
theorem head_rd {f : PV → Sto → RS} {Q : PV → V → Hp → Prop} (s : Sim K C w env S σ H) (h : SpR K C E D w (match da env S with
    | .ok v S => f v S
    | .ex c S => .ex c env S
    | .bad => .bad)) (hq : ∀ v S1 w1 H1 x, w.le w1 → Sim K C w1 env S1 σ H1 → Rep K C w1.F w1.ρ x v → SpR K C E D w1 (f v S1) → Q v x H1) : rE K C E da σ H fun x H1 => ∃ v, Q v x H1 := by
  refine ⟨w, env, S, s, ?_⟩
  cases hd : da env S with
  | ok v S1 =>
    rw [hd] at h
    exact fun w1 H1 le s1 x r => ⟨v, hq v S1 w1 H1 x le s1 r (SpR.up h le)⟩
  | ex c S1 =>
    rw [hd] at h
    exact fun w1 H1 le s1 => h w1 H1 σ le s1
  | bad => rw [hd] at h; exact h.elim
theorem hs_nil : PSs X [] (rS X.K C E sNil) := pss_nil.imp fun D σ H ⟨w, env, S, s, h⟩ => h w H σ (Wd.le.refl _) s
theorem seq_rd (s : Sim K C w env S σ H) (h : SpR K C E D w (sSeq sa sb env S)) : tSeq (rS K C E sa) (rS K C E sb) D σ H := by
  unfold sSeq at h
  refine ⟨w, env, S, s, ?_⟩
  cases hd : sa env S with
  | nx env1 S1 =>
    rw [hd] at h
    exact fun w1 H1 σ1 le s1 => ⟨w1, env1, S1, s1, SpR.up h le⟩
  | rt v S1 => rw [hd] at h; exact h
  | bk e S1 => rw [hd] at h; exact h
  | ct e S1 => rw [hd] at h; exact h
  | ex c e S1 => rw [hd] at h; exact h
  | bad => rw [hd] at h; exact h
theorem hs_cons (h1 : PS X st (rS X.K C E sa)) (h2 : PSs X sts (rS X.K C E sb)) : PSs X (st :: sts) (rS X.K C E (sSeq sa sb)) := (pss_cons h1 h2).imp fun D σ H ⟨w, env, S, s, h⟩ => seq_rd s h
theorem hs_one (h1 : PS X st (rS X.K C E sa)) : PSs X [st] (rS X.K C E sa) := pss_one h1
theorem h_ex (h : PE X e (rE X.K C E da)) (hs : swapsWith e none pos.line X.env = pure false := by rfl) : PS X (.Expr e pos) (rS X.K C E (sEx da)) := by
  refine (ps_expr h hs).imp ?_
  rintro D σ H ⟨w, env, S, s, h⟩
  have z := head_rd (f := fun _ S => .nx env S) (Q := fun _ _ H1 => D.nx σ H1) s h fun v S1 w1 H1 x le s1 r h1 => h1 w1 H1 σ (Wd.le.refl _) s1
  obtain ⟨w, env, S, s, z⟩ := z
  exact ⟨w, env, S, s, z.mono fun v S' w' H' _ _ p x r => (p x r).elim fun _ q => q⟩
theorem h_ret (h : PE X e (rE X.K C E da)) : PS X (.Return (some e) pos) (rS X.K C E (sRet da)) := by
  refine (ps_ret h).imp ?_
  rintro D σ H ⟨w, env, S, s, h⟩
  have z := head_rd (f := fun v S => .rt v S) (Q := fun _ x H1 => D.rt x H1) s h fun v S1 w1 H1 x le s1 r h1 => h1 w1 H1 x (Wd.le.refl _) s1.drop r
  obtain ⟨w, env, S, s, z⟩ := z
  exact ⟨w, env, S, s, z.mono fun v S' w' H' _ _ p x r => (p x r).elim fun _ q => q⟩
theorem put_rd {g : Tgt} {is : List Nat} (s : Sim K C w env S σ H) (h : SpR K C E D w (sPut g da env S)) : tAsg (rE K C E da) (rG K C g is) D σ H := by
  have z := head_rd (f := fun v S => match g v env with
    | some env => .nx env S
    | none => .bad) (Q := fun _ x H1 => rG K C g is x σ H1 D.nx) s h fun v S1 w1 H1 x le s1 r h1 => by
      cases hg : g v env with
      | none => simp only [hg] at h1; exact h1.elim
      | some env1 =>
        simp only [hg] at h1
        exact ⟨w1, env, S1, v, env1, s1, r, hg, fun σ' s' _ => h1 w1 H1 σ' (Wd.le.refl _) s'⟩
  obtain ⟨w, env, S, s, z⟩ := z
  exact ⟨w, env, S, s, z.mono fun v S' w' H' _ _ p x r => (p x r).elim fun _ q => q⟩
/-- target = e -/
theorem h_put {g : Tgt} {is : List Nat} (he : PE X e (rE X.K C E da)) (hg : PG X tg (rG X.K C g is)) (hs : swapsWithSole [tg] e pos.line X.env = pure false := by rfl) (hw : swappedStores [tg] e X.env = pure none := by rfl)
    (h1 : (assignEach [tg] X.env).map (·.2) = [assign tg X.env] := by rfl) : PS X (.Assign [tg] e pos) (rS X.K C E (sPut g da)) := (ps_asg he hg hs hw h1).imp fun D σ H ⟨w, env, S, s, h⟩ => put_rd s h
theorem h_set {i : Nat} {x : Str} {pos' : Pos} (hN : X.N.Nodup) (hi : X.N[i]? = some x) (hx : Loc X.env.scope x) (he : PE X e (rE X.K C E da)) (hs : swapsWith e (some (.Name x pos')) pos.line X.env = pure false := by rfl) (hf : X.fn x = true ∨ X.env.scope.names.lookup x = some .local := by first | exact .inl rfl | exact .inr rfl | assumption) :
    PS X (.Assign [.Name x pos'] e pos) (rS X.K C E (sPut (tgN i) da)) := by
  refine (ps_set hN hi hx he hs hf).imp ?_
  rintro D σ H ⟨w, env, S, s, h⟩
  have z := put_rd (is := [i]) s h
  obtain ⟨w, env, S, s, z⟩ := z
  refine ⟨w, env, S, s, z.mono fun v S' w' H' _ _ p x r => ?_⟩
  obtain ⟨w2, env2, S2, v2, env3, s2, r2, hg, q⟩ := p x r
  exact q _ (s2.putV hg r2) Chg.set
/-- .. of what is new: a slot of its own -/
theorem own_rd {i : Nat} (s : Sim K C w env S σ H) (h : SpR K C E D w (sOwn i da env S)) : tAsg (rN K C E da) (gName i) D σ H := by
  unfold sOwn at h
  refine ⟨w, env, S, s, ?_⟩
  cases hd : da env S with
  | ok v S1 =>
    rw [hd] at h
    intro w1 H1 le s1 p fr nm o
    cases hg : setV i (.own v) env with
    | none => simp only [hg] at h; exact h.elim
    | some env1 =>
      simp only [hg] at h
      refine h w1 H1 _ le (s1.put hg ⟨p, rfl, fr, o⟩ fun j y q hj e m z _ z2 => ?_)
      cases z2
      exact nm j y e m z
  | ex c S1 =>
    rw [hd] at h
    exact fun w1 H1 le s1 => h w1 H1 σ le s1
  | bad => rw [hd] at h; exact h.elim
theorem h_own {i : Nat} {x : Str} {pos' : Pos} (hN : X.N.Nodup) (hi : X.N[i]? = some x) (hx : Loc X.env.scope x) (he : PE X e (rN X.K C E da)) (hs : swapsWith e (some (.Name x pos')) pos.line X.env = pure false := by rfl) (hf : X.fn x = true ∨ X.env.scope.names.lookup x = some .local := by first | exact .inl rfl | exact .inr rfl | assumption) :
    PS X (.Assign [.Name x pos'] e pos) (rS X.K C E (sOwn i da)) := (ps_set hN hi hx he hs hf).imp fun D σ H ⟨w, env, S, s, h⟩ => own_rd s h
/-- x = [.. for ..] on one line -/
theorem h_ownLc {E' : WX} {i : Nat} {y : Str} {py pos' : Pos} {elt iter : Expr} {ifs : List Expr} {scope : Scope} {own : List (Str × Nat)} {it : Itx} {g : Tgt} {is : List Nat} {dc de : Ex} (hc : X.calm = true) (hN : X.N.Nodup) (hy : X.N[i]? = some y) (hyl : X.env.scope.names.lookup y = some .local)
    (hsw : swapsWith (.ListComp elt [⟨tg, iter, ifs, 0⟩] scope pos) (some (.Name y py)) pos'.line X.env = pure true) (hi : PI X tg iter (rIt X.K C E it)) (ok : BlkOk X.N X.env.scope scope own)
    (hg : ∀ (s : Shared) (H : Hp) (Ca : Addr) (cl : List (Str × Addr)) (fp : List Addr), PG (X.blk s H scope (compEnvC scope cl Ca X.env) fp) tg (rG X.K C g is)) (ht : ∀ (s : Shared) (H : Hp) (Ca : Addr) (cl : List (Str × Addr)) (fp : List Addr), PTs (X.blk s H scope (compEnvC scope cl Ca X.env) fp) ifs (rT X.K C E' dc))
    (he : ∀ (s : Shared) (H : Hp) (Ca : Addr) (cl : List (Str × Addr)) (fp : List Addr), PE (X.blk s H scope (compEnvC scope cl Ca X.env) fp) elt (rE X.K C E' de)) (htg : TgOk g is) (his : ∀ i ∈ is, i ∈ own.map (·.2) := by decide) (hs : ∀ x, foldedSetIterable iter X.env x = pure x := by intro _; rfl) :
    PS X (.Assign [.Name y py] (.ListComp elt [⟨tg, iter, ifs, 0⟩] scope pos) pos') (rS X.K C E (sOwn i (eLC it (own.map (·.2)) g dc de))) :=
  (ps_setLc hc hN hy hyl hsw hi ok hg ht he hs).imp fun D σ H ⟨w, env, S, s, h⟩ => lc_rd htg his (own_rd s h)
theorem h_ifS {sa' sb' : List Stmt} (hc : PT X c (rT X.K C E dc)) (ha : PSs X sa' (rS X.K C E sa)) (hb : PSs X sb' (rS X.K C E sb)) : PS X (.If c sa' sb' pos) (rS X.K C E (sIf dc sa sb)) := by
  refine (ps_if hc ha hb).imp ?_
  rintro D σ H ⟨w, env, S, s, h⟩
  unfold sIf at h
  refine ⟨w, env, S, s, ?_⟩
  cases hd : dc env S with
  | ok v S1 =>
    rw [hd] at h
    intro w1 H1 le s1
    cases v with
    | bl k =>
      refine ⟨k, rfl, ?_⟩
      cases k with
      | true => rw [if_pos rfl]; exact ⟨w1, env, S1, s1, SpR.up h le⟩
      | false => rw [if_neg Bool.false_ne_true]; exact ⟨w1, env, S1, s1, SpR.up h le⟩
    | _ => exact h.elim
  | ex c S1 =>
    rw [hd] at h
    exact fun w1 H1 le s1 => h w1 H1 σ le s1
  | bad => rw [hd] at h; exact h.elim
theorem h_break : PS X (.Break pos) (rS X.K C E sBreak) := ps_break.imp fun D σ H ⟨w, env, S, s, h⟩ => h w H σ (Wd.le.refl _) s
theorem h_pass : PS X (.Pass pos) (rS X.K C E sNil) := ps_pass.imp fun D σ H ⟨w, env, S, s, h⟩ => h w H σ (Wd.le.refl _) s

/-! ### loops -/
theorem for_rd {it : Itx} {g : Tgt} {is : List Nat} (s : Sim K C w env S σ H) (h : SpR K C E D w (sFor it g sa env S)) : tFor (rIt K C E it) (rG K C g is) (rS K C E sa) D σ H := by
  unfold sFor at h
  refine ⟨w, env, S, s, ?_⟩
  cases hd : it env S with
  | ex c S1 =>
    rw [hd] at h
    exact fun w1 H1 le s1 => h w1 H1 σ le s1
  | bad => rw [hd] at h; exact h.elim
  | ok xs S1 =>
    rw [hd] at h
    intro w1 H1 le1 s1 J fd
    have h := SpR.up h le1
    refine ⟨fun i m σ H => m = xs.length - i ∧ i ≤ xs.length ∧ ∃ w2 env2 S2, w1.le w2 ∧ Sim K C w2 env2 S2 σ H ∧ SpR K C E D w2 (forLoop g sa (xs.drop i) env2 S2), ⟨_, rfl, Nat.zero_le _, w1, env, S1, Wd.le.refl _, s1, h⟩, ?_⟩
    rintro i m σ2 H2 ⟨rfl, hil, w2, env2, S2, le2, s2, h2⟩
    have fdi := fd w2 H2 le2 s2.f s2.b
    by_cases hlt : i < xs.length
    · have hx : xs[i]? = some xs[i] := List.getElem?_eq_getElem hlt
      rw [List.drop_eq_getElem_cons hlt] at h2
      unfold forLoop at h2
      obtain ⟨f1, f2⟩ := fdi.1 i _ hx
      refine .inr ⟨f1, fun σ H => (fun i m σ H => m = xs.length - i ∧ i ≤ xs.length ∧ ∃ w2 env2 S2, w1.le w2 ∧ Sim K C w2 env2 S2 σ H ∧ SpR K C E D w2 (forLoop g sa (xs.drop i) env2 S2)) (i + 1) (xs.length - (i + 1)) σ H, fun σ' H' z => ⟨_, by omega, z⟩, fun x H3 hy => ?_⟩
      obtain ⟨F3, gr, rx⟩ := f2 x H3 hy
      obtain ⟨s3, le3⟩ := s2.grow gr
      cases hg : g xs[i] env2 with
      | none => simp only [hg] at h2; exact h2.elim
      | some env3 =>
        simp only [hg] at h2
        refine ⟨_, env2, S2, xs[i], env3, s3, rx, hg, fun σ4 s4 ch => ⟨_, env3, S2, s4, ?_⟩⟩
        have h4 := SpR.up h2 le3
        cases hb : sa env3 S2 with
        | nx e5 S5 =>
          simp only [hb] at h4
          exact fun w5 H5 σ5 le5 s5 => ⟨rfl, hlt, w5, e5, S5, le2.trans (le3.trans le5), s5, SpR.up h4 le5⟩
        | ct e5 S5 =>
          simp only [hb] at h4
          exact fun w5 H5 σ5 le5 s5 => ⟨rfl, hlt, w5, e5, S5, le2.trans (le3.trans le5), s5, SpR.up h4 le5⟩
        | bk e5 S5 => simp only [hb] at h4; exact h4
        | rt v S5 => simp only [hb] at h4; exact h4
        | ex c e5 S5 => simp only [hb] at h4; exact h4
        | bad => simp only [hb] at h4; exact h4
    · have e : i = xs.length := by omega
      subst e
      rw [List.drop_length] at h2
      exact .inl ⟨fdi.2, h2 w2 H2 σ2 (Wd.le.refl _) s2⟩
theorem h_for {it : Itx} {g : Tgt} {is : List Nat} {iter : Expr} {body : List Stmt} (hp : PassesOwn (model X.prog X.w) X.A X.env X.xe) (hc : X.calm = true) (hi : PI X tg iter (rIt X.K C E it)) (hg : PG X tg (rG X.K C g is)) (hb : PSs X body (rS X.K C E sa))
    (hs : ∀ x, foldedSetIterable iter X.env x = pure x := by intro _; rfl) : PS X (.For tg iter body [] pos) (rS X.K C E (sFor it g sa)) := (ps_for hp hc hi hg hb hs).imp fun D σ H ⟨w, env, S, s, h⟩ => for_rd s h
theorem while_rd : ∀ (n : Nat) {w : Wd} {env : En} {S : Sto} {σ : L2.St} {H : Hp}, Sim K C w env S σ H → SpR K C E D w (whileLoop dc sa n env S) → tWhile (rT K C E dc) (rS K C E sa) D σ H := by
  intro n w env S σ H s h
  refine ⟨fun m σ H => ∃ w2 env2 S2, Sim K C w2 env2 S2 σ H ∧ SpR K C E D w2 (whileLoop dc sa m env2 S2), ⟨n, w, env, S, s, h⟩, ?_⟩
  rintro m σ2 H2 ⟨w2, env2, S2, s2, h2⟩
  cases m with
  | zero => exact h2.elim
  | succ m =>
    unfold whileLoop at h2
    refine ⟨w2, env2, S2, s2, ?_⟩
    cases hc : dc env2 S2 with
    | ex c S3 => simp only [hc] at h2; exact fun w1 H1 le s1 => h2 w1 H1 σ2 le s1
    | bad => simp only [hc] at h2; exact h2.elim
    | ok v S3 =>
      simp only [hc] at h2
      intro w3 H3 le3 s3
      cases v with
      | bl k =>
        cases k with
        | false => exact ⟨false, rfl, iteF (h2 w3 H3 σ2 le3 s3)⟩
        | true =>
          refine ⟨true, rfl, iteT ?_⟩
          refine ⟨fun σ H => ∃ w2 env2 S2, Sim K C w2 env2 S2 σ H ∧ SpR K C E D w2 (whileLoop dc sa m env2 S2), fun σ' H' z => ⟨m, Nat.lt_succ_self _, z⟩, w3, env2, S3, s3, ?_⟩
          have h3 := SpR.up h2 le3
          cases hb : sa env2 S3 with
          | nx e5 S5 => simp only [hb] at h3; exact fun w5 H5 σ5 le5 s5 => ⟨w5, e5, S5, s5, SpR.up h3 le5⟩
          | ct e5 S5 => simp only [hb] at h3; exact fun w5 H5 σ5 le5 s5 => ⟨w5, e5, S5, s5, SpR.up h3 le5⟩
          | bk e5 S5 => simp only [hb] at h3; exact h3
          | rt v S5 => simp only [hb] at h3; exact h3
          | ex c e5 S5 => simp only [hb] at h3; exact h3
          | bad => simp only [hb] at h3; exact h3
      | _ => exact h2.elim
theorem h_while {body : List Stmt} (hp : PassesOwn (model X.prog X.w) X.A X.env X.xe) (hc : PT X c (rT X.K C E dc)) (hb : PSs X body (rS X.K C E sa)) : PS X (.While c body [] pos) (rS X.K C E (sWhile dc sa)) :=
  (ps_while hp hc hb).imp fun D σ H ⟨w, env, S, s, h⟩ => while_rd fuel s h
theorem h_raise {t : L2.St → Hp → XK → Prop} {k : Kx} (hc : X.calm = true) (tk : Takes X E) (he : PMk X e fun _ H Q => Q (.ref (C k)) none H) : PS X (.Raise (some e) none pos) (rS X.K C E (sRaise k)) :=
  (ps_raise hc tk he).imp fun D σ H ⟨w, env, S, s, h⟩ => h w H σ (Wd.le.refl _) s
end
end Hw

set_option maxRecDepth 100000
set_option maxHeartbeats 4000000
namespace Hw
open PySem PySem.Spec L2
open PyProof.Rows (envOfC)

/-! ### defs -/
abbrev Fn := List PV → Sto → R PV
mutual
/-- no pointer to a cell from n on -/
def PV.pl : PV → Nat → Bool
  | .tup xs, n => PV.plL xs n
  | .lst xs, n => PV.plL xs n
  | .dI xs, n => PV.plI xs n
  | .dT xs, n => PV.plT xs n
  | .ptr m, n => decide (m < n)
  | _, _ => true
termination_by structural x => x
def PV.plL : List PV → Nat → Bool
  | [], _ => true
  | x :: xs, n => PV.pl x n && PV.plL xs n
termination_by structural x => x
def PV.plI : List (Int × PV) → Nat → Bool
  | [], _ => true
  | x :: xs, n => PV.plP x n && PV.plI xs n
termination_by structural x => x
def PV.plP : Int × PV → Nat → Bool
  | (_, x), n => PV.pl x n
termination_by structural x => x
def PV.plT : List (List Int × PV) → Nat → Bool
  | [], _ => true
  | x :: xs, n => PV.plQ x n && PV.plT xs n
termination_by structural x => x
def PV.plQ : List Int × PV → Nat → Bool
  | (_, x), n => PV.pl x n
termination_by structural x => x
end
/-- what nobody sees any more is gone -/
def truncR (n : Nat) : R PV → R PV
  | .ok v S => if v.pl n && PV.plL (S.take n) n then .ok v (S.take n) else .ok v S
  | .ex c S => if PV.plL (S.take n) n then .ex c (S.take n) else .ex c S
  | .bad => .bad
def runFn (n : Nat) (d : Sm) : Fn := fun args S => truncR S.length (match d (args.map .v ++ List.replicate (n - args.length) .un) S with
  | .nx _ S' => .ok .non S'
  | .rt v S' => .ok v S'
  | .ex c _ S' => .ex c S'
  | _ => .bad)
def eCall (f : Fn) (a : Exs) : Ex := fun env S => (a env S).bind fun us S => f us S
section
variable (K : PySem.W.Frag) (C : Kx → Addr)
/-- what a call is to leave -/
def FnR (w : Wd) (Q : VK) (E : XK) : R PV → Prop
  | .ok v S' => ∀ w' H' x, w.le w' → Sim K C w' [] S' [] H' → Rep K C w'.F w'.ρ x v → Q x H'
  | .ex c S' => ∀ w' H', w.le w' → Sim K C w' [] S' [] H' → E (.ref (C c)) none H'
  | .bad => False
def spF (f : Fn) (n : Nat) : Sp := fun vs H Q E => ∃ w S args, Sim K C w [] S [] H ∧ RepL K C w.F w.ρ vs args ∧ args.length = n ∧ FnR K C w Q E (f args S)
end
section
variable {X : Cx} {C : Kx → Addr} {E : WX} {pos : Pos} {K : PySem.W.Frag} {w w' : Wd} {env env' : En} {S S' : Sto} {σ σ' : L2.St} {H H' : Hp} {D : Ends}
/-- the callee's world: our own slots are others' there -/
theorem Sim.call (s : Sim K C w env S σ H) : ∃ wc : Wd, wc.F = w.F ∧ wc.ρ = w.ρ ∧ Sim K C wc [] S [] H ∧ ∀ w1 H1 S1, wc.le w1 → Sim K C w1 [] S1 [] H1 → ∃ w', w.le w' ∧ w'.F = w1.F ∧ w'.ρ = w1.ρ ∧ Sim K C w' env S1 σ H1 := by
  classical
  let B' : Hp := fun (a : Addr) => if (∃ (i : Nat) (x : PV), env[i]? = some (SV.own x) ∧ σ[i]? = some (some (V.ref a))) then H a else w.B a
  have B'o : ∀ {i : Nat} {x : PV} {a : Addr}, env[i]? = some (SV.own x) → σ[i]? = some (some (V.ref a)) → B' a = H a := fun {i x a} h1 h2 => if_pos ⟨i, x, h1, h2⟩
  have B'n : ∀ {a : Addr}, (¬ ∃ (i : Nat) (x : PV), env[i]? = some (SV.own x) ∧ σ[i]? = some (some (V.ref a))) → B' a = w.B a := fun {a} h => if_neg h
  have own : ∀ {i : Nat} {x : PV} {a : Addr}, env[i]? = some (SV.own x) → σ[i]? = some (some (V.ref a)) → Fr1 w a ∧ ObjR K C w H a x := fun {i x a} h1 h2 => by
    obtain ⟨b, h3, h4, h5⟩ := s.sl i _ h1
    rw [h2] at h3
    cases h3
    exact ⟨h4, h5⟩
  have keepB : ∀ {a : Addr} {o : HO}, w.B a = some o → B' a = some o := fun {a o} h => by
    rw [B'n]
    · exact h
    · rintro ⟨i, x, h1, h2⟩
      have z := (own h1 h2).1.b
      rw [h] at z; cases z
  refine ⟨⟨w.F, B', w.ρ, fun _ => none⟩, rfl, rfl, ⟨s.f, fun a o e => ?_, fun a o e => ?_, (fun i a z => nomatch z), Nat.le_refl _, fun _ _ e => (by simp at e), fun _ _ _ _ _ e => (by simp at e), s.ln, s.nd, fun n c a e1 e2 => ?_⟩, fun w1 H1 S1 le s1 => ?_⟩
  · by_cases h : ∃ (i : Nat) (x : PV), env[i]? = some (SV.own x) ∧ σ[i]? = some (some (V.ref a))
    · obtain ⟨i, x, h1, h2⟩ := h
      have e : B' a = some o := e
      rw [B'o h1 h2] at e; exact e
    · have e : B' a = some o := e
      rw [B'n h] at e; exact s.b _ _ e
  · by_cases h : ∃ (i : Nat) (x : PV), env[i]? = some (SV.own x) ∧ σ[i]? = some (some (V.ref a))
    · obtain ⟨i, x, h1, h2⟩ := h
      exact .inl (own h1 h2).1.f
    · have e : B' a = some o := e
      rw [B'n h] at e; exact s.fb _ _ e
  · obtain ⟨h1, h2, h3⟩ := s.cl n c a e1 e2
    refine ⟨h1, ?_, h3.same rfl rfl⟩
    show B' a = none
    rw [B'n]
    · exact h2
    · rintro ⟨i, x, h4, h5⟩
      exact (own h4 h5).1.r (List.mem_of_getElem? e2)
  · have b1 : w1.B = B' := le.b
    have lew : w.le { F := w1.F, B := w.B, ρ := w1.ρ, L := w.L } := ⟨le.f, rfl, rfl, le.r⟩
    have bh : ∀ {a : Addr} {o : HO}, w.B a = some o → w1.B a = some o := fun {a o} h => by rw [b1]; exact keepB h
    have own1 : ∀ {i : Nat} {x : PV} {a : Addr}, env[i]? = some (SV.own x) → σ[i]? = some (some (V.ref a)) → w1.B a = H a := fun {i x a} h1 h2 => by rw [b1]; exact B'o h1 h2
    refine ⟨{ F := w1.F, B := w.B, ρ := w1.ρ, L := w.L }, lew, rfl, rfl, ⟨s1.f, fun a o e => s1.b _ _ (bh e), fun a o e => s1.fb _ _ (bh e), s.lb, s.le, fun i x e => ?_, s.od, s1.ln, s1.nd, fun n c a e1 e2 => ?_⟩⟩
    · have z := s.sl i x e
      cases x with
      | un => trivial
      | v y => obtain ⟨u, h1, h2⟩ := z; exact ⟨u, h1, RepW.up lew h2⟩
      | lk y =>
        obtain ⟨a, h0, h1, h2⟩ := z
        exact ⟨a, h0, h1, h2.up lew fun _ e => e⟩
      | own y =>
        obtain ⟨a, h1, h2, h3⟩ := z
        obtain ⟨o, ho⟩ := h3.there
        have hb : w1.B a = some o := by rw [own1 e h1]; exact ho
        have hf : w1.F a = none := by
          rcases s1.fb a o hb with h | ⟨xs, h⟩
          · exact h
          · subst h; exact absurd ho (h3.nottup xs)
        refine ⟨a, h1, ⟨hf, h2.b, fun hm => ?_⟩, h3.up lew fun u hu => ?_⟩
        · obtain ⟨n, hn⟩ := List.getElem?_of_mem hm
          have hlt := (List.getElem?_eq_some_iff.mp hn).1
          rw [s1.ln] at hlt
          obtain ⟨_, h4, _⟩ := s1.cl n _ a (List.getElem?_eq_getElem hlt) hn
          rw [hb] at h4; cases h4
        · rw [ho] at hu; cases hu; exact s1.b _ _ hb
    · obtain ⟨h1, h2, h3⟩ := s1.cl n c a e1 e2
      refine ⟨h1, ?_, h3.same rfl rfl⟩
      cases q : w.B a with
      | none => rfl
      | some o => rw [bh q] at h2; cases h2
theorem call_rd {f : Fn} {n : Nat} {vs : List V} {args : List PV} {Q : VK} {P : PV → Sto → Wd → Hp → Prop} (s : Sim K C w env S σ H) (r : RepL K C w.F w.ρ vs args) (hn : args.length = n)
    (h : Wp K C E w env σ (f args S) P) (hq : ∀ v S' w' H' x, Sim K C w' env S' σ H' → P v S' w' H' → Rep K C w'.F w'.ρ x v → Q x H') : spF K C f n vs H Q (WE E σ) := by
  obtain ⟨wc, f1, r1, sc, back⟩ := s.call
  refine ⟨wc, S, args, sc, by rw [f1, r1]; exact r, hn, ?_⟩
  cases hd : f args S with
  | ok v S1 =>
    rw [hd] at h
    intro w1 H1 x le s1 rx
    obtain ⟨w2, l2, e1, e2, s2⟩ := back w1 H1 S1 le s1
    exact hq v S1 w2 H1 x s2 (h w2 H1 l2 s2) (by rw [e1, e2]; exact rx)
  | ex c S1 =>
    rw [hd] at h
    intro w1 H1 le s1
    obtain ⟨w2, l2, e1, e2, s2⟩ := back w1 H1 S1 le s1
    exact h w2 H1 l2 s2
  | bad => rw [hd] at h; exact h.elim
section
variable {k : Nat} {f : Addr} {fd : FuncData} {ps : List Str} {x : Str} {p : Pos} {e : Expr} {es : List Expr} {ds : Exs} {fn : Fn}
/-- f(e, ..), all parameters written -/
theorem h_call {n : Nat} (F : FnOk X.prog X.w X.K X.mg X.base (L2.CX X.prog X.w) k f fd ps (spF X.K C fn n)) (hr : Room k X.A) (hg : Gl X x) (hm : X.mg x = some (.ref f)) (hk : PySem.W.keepIn X.K (.ref f) = true) (hb : Binds X.K fd ps []) (tk : Takes X E)
    (ha : PA X (e :: es) (rA X.K C E ds)) (hl : ∀ env S us S', ds env S = .ok us S' → us.length = n) (hdb : (x == ("__debug__" : Str)) = false := by decide) (he : starEach (e :: es) X.env = (false, eval e X.env) :: starEach es X.env := by rfl) (hpl : (backTo pos (starEach es X.env)).any (·.1) = false := by rfl) :
    PE X (.Call (.Name x p) (e :: es) [] pos) (rE X.K C E (eCall fn ds)) := by
  refine (pe_callS F hr hg hm hk hb (passAt tk) ha hdb he hpl).imp ?_
  rintro σ H Q ⟨w, env, S, s, h⟩
  unfold eCall at h
  refine ⟨w, env, S, s, ?_⟩
  cases hd : ds env S with
  | ok us S1 =>
    rw [hd] at h
    have h : Wp X.K C E w env σ (fn us S1) _ := h
    intro w1 H1 le1 s1 vs rv
    exact call_rd s1 rv (hl _ _ _ _ hd) (h.up le1) fun v S' w' H' y s' p r => p y r
  | ex c S1 => rw [hd] at h; exact h
  | bad => rw [hd] at h; exact h
end

/-! ### a def's body -/
theorem slots_start {vs : List V} {args : List PV} (m : Nat) (s : Sim K C w [] S [] H) (r : RepL K C w.F w.ρ vs args) : Sim K C w (args.map SV.v ++ List.replicate m SV.un) S (vs.map some ++ List.replicate m none) H := by
  have hl := r.length
  have pl : ∀ i x, (args.map SV.v ++ List.replicate m SV.un)[i]? = some x → (∃ y, args[i]? = some y ∧ x = SV.v y) ∨ (x = SV.un) := fun i x e => by
    by_cases hi : i < args.length
    · rw [List.getElem?_append_left (by simpa using hi), List.getElem?_map] at e
      cases q : args[i]? with
      | none => rw [q] at e; cases e
      | some y => rw [q] at e; cases e; exact .inl ⟨y, q, rfl⟩
    · rw [List.getElem?_append_right (by simpa using hi), List.getElem?_replicate] at e
      split at e <;> cases e
      exact .inr rfl
  refine ⟨s.f, s.b, s.fb, s.lb, by simp [hl], fun i x e => ?_, fun i j x y a e1 e2 m1 m2 => ?_, s.ln, s.nd, s.cl⟩
  · rcases pl i x e with ⟨y, h1, rfl⟩ | rfl
    · obtain ⟨v, h2, h3⟩ := r.get h1
      have hi : i < vs.length := (List.getElem?_eq_some_iff.mp h2).1
      refine ⟨v, ?_, h3⟩
      rw [List.getElem?_append_left (by simpa using hi), List.getElem?_map, h2] <;> rfl
    · trivial
  · rcases pl i x e1 with ⟨_, _, rfl⟩ | rfl <;> cases m1
mutual
theorem Rep.cut {F : Hp} {ρ : List Addr} (n : Nat) : ∀ {v : V} {x : PV}, Rep K C F ρ v x → x.pl n = true → Rep K C F (ρ.take n) v x
  | _, _, .non, _ => .non
  | _, _, .bl b, _ => .bl b
  | _, _, .int i, _ => .int i
  | _, _, .str x, _ => .str x
  | _, _, .tup r s, h => .tup r (RepL.cut n s h)
  | _, _, .lst r s, h => .lst r (RepL.cut n s h)
  | _, _, .dI r s, h => .dI r (RepI.cut n s h)
  | _, _, .dT r s, h => .dT r (RepT.cut n s h)
  | _, _, .exc r, _ => .exc r
  | _, _, .kls r, _ => .kls r
  | _, _, .ptr r, h => .ptr (by rw [List.getElem?_take_of_lt (of_decide_eq_true h)]; exact r)
theorem RepL.cut {F : Hp} {ρ : List Addr} (n : Nat) : ∀ {v : List V} {x : List PV}, RepL K C F ρ v x → PV.plL x n = true → RepL K C F (ρ.take n) v x
  | _, _, .nil, _ => .nil
  | _, _, .cons r s, h => .cons (Rep.cut n r (Bool.and_eq_true_iff.mp h).1) (RepL.cut n s (Bool.and_eq_true_iff.mp h).2)
theorem RepI.cut {F : Hp} {ρ : List Addr} (n : Nat) : ∀ {v : List (Key × V)} {x : List (Int × PV)}, RepI K C F ρ v x → PV.plI x n = true → RepI K C F (ρ.take n) v x
  | _, _, .nil, _ => .nil
  | _, _, .cons r s, h => .cons (Rep.cut n r (Bool.and_eq_true_iff.mp h).1) (RepI.cut n s (Bool.and_eq_true_iff.mp h).2)
theorem RepT.cut {F : Hp} {ρ : List Addr} (n : Nat) : ∀ {v : List (List Key × V)} {x : List (List Int × PV)}, RepT K C F ρ v x → PV.plT x n = true → RepT K C F (ρ.take n) v x
  | _, _, .nil, _ => .nil
  | _, _, .cons r s, h => .cons (Rep.cut n r (Bool.and_eq_true_iff.mp h).1) (RepT.cut n s (Bool.and_eq_true_iff.mp h).2)
end
theorem plL_get {n i : Nat} {c : PV} : ∀ {S : List PV}, PV.plL S n = true → S[i]? = some c → c.pl n = true
  | [], _, e => by simp at e
  | x :: xs, h, e => by
    obtain ⟨h1, h2⟩ := Bool.and_eq_true_iff.mp (show (x.pl n && PV.plL xs n) = true from h)
    cases i with
    | zero => simp at e; subst e; exact h1
    | succ i => exact plL_get h2 (by simpa using e)
theorem ObjR.cut {n : Nat} {a : Addr} {x : PV} (r : ObjR K C w H a x) (h : x.pl n = true) : ObjR K C { w with ρ := w.ρ.take n } H a x := by
  cases x with
  | lst xs => obtain ⟨vs, e, r⟩ := r; exact ⟨vs, e, r.cut n h⟩
  | dI xs => obtain ⟨vs, e, r⟩ := r; exact ⟨vs, e, r.cut n h⟩
  | dT xs => obtain ⟨vs, e, r⟩ := r; exact ⟨vs, e, r.cut n h⟩
  | _ => exact r.elim
theorem Sim.cut {n : Nat} (s : Sim K C w [] S [] H) (h : PV.plL (S.take n) n = true) : Sim K C { w with ρ := w.ρ.take n } [] (S.take n) [] H := by
  refine ⟨s.f, s.b, s.fb, s.lb, s.le, fun _ _ e => (by simp at e), fun _ _ _ _ _ e => (by simp at e), by simp [s.ln], s.nd.sublist (List.take_sublist ..), fun m c a e1 e2 => ?_⟩
  have hm : m < n := by
    have := (List.getElem?_eq_some_iff.mp e1).1
    rw [List.length_take] at this; omega
  have e1' := e1
  rw [List.getElem?_take_of_lt hm] at e1'
  have e2 : (w.ρ.take n)[m]? = some a := e2
  rw [List.getElem?_take_of_lt hm] at e2
  obtain ⟨f, b, o⟩ := s.cl m c a e1' e2
  exact ⟨f, b, o.cut (plL_get h e1)⟩
theorem FnR.cut {Q : VK} {E : XK} {r : R PV} (hl : w.ρ.length = n) (h : FnR K C w Q E (truncR n r)) : FnR K C w Q E r := by
  have lec : ∀ {w' : Wd}, w.le w' → w.le { w' with ρ := w'.ρ.take n } := fun {w'} le => by
    obtain ⟨m, e⟩ := le.r
    exact ⟨le.f, le.b, le.l, [], by show w'.ρ.take n = _; rw [e, List.append_nil, ← hl, List.take_left']; rfl⟩
  cases r with
  | ok v S' =>
    simp only [truncR] at h
    split at h
    · rename_i hp
      obtain ⟨h1, h2⟩ := Bool.and_eq_true_iff.mp hp
      exact fun w' H' x le s r => h _ H' x (lec le) (s.cut h2) (r.cut n h1)
    · exact h
  | ex c S' =>
    simp only [truncR] at h
    split at h
    · rename_i hp
      exact fun w' H' le s => h _ H' (lec le) (s.cut hp)
    · exact h
  | bad => exact h
/-- the promise of a def by its body -/
theorem body_rd {N ps : List Str} {d : Sm} {vs : List V} {Q : VK} {EX : XK} (hN : ps.length ≤ N.length) (h : spF K C (runFn N.length d) ps.length vs H Q EX) :
    rS K C (fun cls dd _ H => EX cls dd H) d { nx := fun _ H' => Q .non H', rt := Q } (L2.start N vs) H := by
  obtain ⟨w, S, args, s, r, hl, h⟩ := h
  have hlv := r.length
  rw [show L2.start N vs = vs.map some ++ List.replicate (N.length - args.length) none from by unfold L2.start; rw [hlv]]
  refine ⟨w, _, S, slots_start (N.length - args.length) s r, ?_⟩
  unfold runFn at h
  have h := FnR.cut s.ln h
  cases hd : d (args.map SV.v ++ List.replicate (N.length - args.length) SV.un) S with
  | nx e1 S1 => rw [hd] at h; exact fun w1 H1 σ1 le s1 => h w1 H1 .non le s1.drop .non
  | rt v S1 => rw [hd] at h; exact fun w1 H1 x le s1 rx => h w1 H1 x le s1 rx
  | bk e1 S1 => rw [hd] at h; exact h.elim
  | ct e1 S1 => rw [hd] at h; exact h.elim
  | ex c e1 S1 => rw [hd] at h; exact fun w1 H1 σ1 le s1 => h w1 H1 le s1.drop
  | bad => rw [hd] at h; exact h.elim
theorem spF_len {f : Fn} {n : Nat} : ∀ vs H Q EX, spF K C f n vs H Q EX → vs.length = n := fun vs H Q EX h => by
  obtain ⟨w, S, args, s, r, hl, h⟩ := h
  rw [r.length]; exact hl
theorem FnScope.le {N ps : List Str} {sc : Scope} (S : FnScope N ps sc) : ps.length ≤ N.length := by
  have := congrArg List.length S.pre
  rw [List.length_take] at this
  omega
abbrev XE1 (EX : XK) : WX := fun cls dd _ H => EX cls dd H
/-- THE RULE for a def without defaults -/
theorem fn_ok {P : Program} {W : World} {mg : Str → Option Value} {base : Heap} {x qual : Str} {st : Stmt} {f : Addr} {fd : FuncData} {N ps : List Str} {k : Nat} {d : Sm} (F : Fun K x qual st f fd) (S : FnScope N ps (defScope st))
    (hbody : ∀ (cdv : Value) (A : Around) (outer : List PySem.Env) (s : Shared) (H : Hp) (EX : XK), Room k (A.deeper (envOfC qual (defScope st) s.heap.objs.size f cdv)) →
      PSs (cxOf (L2.CX P W) P W K mg base N qual (defScope st) f cdv A outer s H EX) (defBody st) (rS K C (XE1 EX) d)) :
    FnOk P W K mg base (L2.CX P W) (k + 1) f fd ps (spF K C (runFn N.length d) ps.length) :=
  F.okX S spF_len fun cdv A outer s H vs Q EX hr hsp => ⟨_, hbody cdv A outer s H EX hr, body_rd (FnScope.le S) hsp⟩
end
end Hw

set_option maxRecDepth 100000
set_option maxHeartbeats 4000000
namespace Hw
open PySem PySem.Spec L2
open PyProof.Rows (envOfC)

/-! ### what plain operations do -/
mutual
def PV.eq : PV → PV → Bool
  | .non, .non => true
  | .bl a, .bl b => a == b
  | .bl a, .int j => (if a then 1 else 0) == j
  | .int i, .bl b => i == (if b then 1 else 0)
  | .int i, .int j => i == j
  | .str x, .str y => x == y
  | .tup xs, .tup ys => PV.eqL xs ys
  | .lst xs, .lst ys => PV.eqL xs ys
  | _, _ => false
termination_by structural x => x
def PV.eqL : List PV → List PV → Bool
  | [], [] => true
  | x :: xs, y :: ys => PV.eq x y && PV.eqL xs ys
  | _, _ => false
termination_by structural x => x
end
mutual
/-- may be compared, to this depth -/
def PV.sh : PV → Nat → Bool
  | .non, _ => true
  | .bl _, _ => true
  | .int _, _ => true
  | .str x, _ => x.cps.all (· < 0x110000)
  | .tup _, 0 => false
  | .lst _, 0 => false
  | .tup xs, n + 1 => PV.shL xs n
  | .lst xs, n + 1 => PV.shL xs n
  | _, _ => false
termination_by structural x => x
def PV.shL : List PV → Nat → Bool
  | [], _ => true
  | x :: xs, n => PV.sh x n && PV.shL xs n
termination_by structural x => x
end
mutual
def PV.dat : PV → PyData
  | .non => .none
  | .bl b => .bool b
  | .int i => .int i
  | .str x => .str x
  | .tup xs => .tuple (PV.datL xs)
  | .lst xs => .list (PV.datL xs)
  | _ => .none
termination_by structural x => x
def PV.datL : List PV → List PyData
  | [] => []
  | x :: xs => PV.dat x :: PV.datL xs
termination_by structural x => x
end
def pEq (u v : PV) : Option PV := if u.sh 16 && v.sh 16 then some (.bl (u.eq v)) else none
def pNe (u v : PV) : Option PV := if u.sh 16 && v.sh 16 then some (.bl (!u.eq v)) else none
def pAdd : PV → PV → Option PV
  | .int i, .int j => some (.int (i + j))
  | .lst xs, .lst ys => if xs.length + ys.length ≤ 1000000 then some (.lst (xs ++ ys)) else none
  | .tup xs, .tup ys => if xs.length + ys.length ≤ 1000000 then some (.tup (xs ++ ys)) else none
  | _, _ => none
def pSub : PV → PV → Option PV
  | .int i, .int j => some (.int (i - j))
  | _, _ => none
def cmulB (i j : Int) : Bool := (decide (-(2 ^ 64) < i) && decide (i < 2 ^ 64)) || (decide (-(2 ^ 64) < j) && decide (j < 2 ^ 64))
def pMul : PV → PV → Option PV
  | .int i, .int j => if cmulB i j then some (.int (i * j)) else none
  | .lst xs, .int k => if decide (-(2 ^ 63) ≤ k) && decide (k < 2 ^ 63) && decide (xs.length * k.toNat ≤ 1000000) then some (.lst (List.replicate k.toNat xs).flatten) else none
  | .tup xs, .int k => if !xs.isEmpty && decide (2 ≤ k) && decide (k ≤ 1000) && decide (xs.length ≤ 1000) then some (.tup (List.replicate k.toNat xs).flatten) else if k == 1 then none else none
  | _, _ => none
def pMod : PV → PV → Option PV
  | .int i, .int j => if 0 < j then some (.int (i % j)) else none
  | _, _ => none
def pDiv : PV → PV → Option PV
  | .int i, .int j => if 0 < j ∧ j < 1073741824 then some (.int (i / j)) else none
  | _, _ => none
def pPow : PV → PV → Option PV
  | .int i, .int j => if 0 ≤ j ∧ j ≤ 1000000 ∧ i.natAbs < 2 ^ 64 then some (.int (i ^ j.toNat)) else none
  | _, _ => none
def pNeg : PV → Option PV
  | .int i => some (.int (-i))
  | _ => none
def pLt : PV → PV → Option PV
  | .int i, .int j => some (.bl (decide (i < j)))
  | _, _ => none
def pLe : PV → PV → Option PV
  | .int i, .int j => some (.bl (decide (i ≤ j)))
  | _, _ => none
def pGt : PV → PV → Option PV
  | .int i, .int j => some (.bl (decide (j < i)))
  | _, _ => none
def pGe : PV → PV → Option PV
  | .int i, .int j => some (.bl (decide (j ≤ i)))
  | _, _ => none
def pIs : PV → PV → Option PV
  | .bl a, .bl b => some (.bl (decide (a = b)))
  | x, .non => match x with | .non => some (.bl true) | _ => some (.bl false)
  | _, _ => none
def pIsNot : PV → PV → Option PV
  | .bl a, .bl b => some (.bl (!decide (a = b)))
  | x, .non => match x with | .non => some (.bl false) | _ => some (.bl true)
  | _, _ => none
def pAbs : PV → Option PV
  | .int i => some (.int (if i < 0 then -i else i))
  | _ => none
def pMax2 : PV → PV → Option PV
  | .int i, .int j => some (.int (if j > i then j else i))
  | _, _ => none
def pMin2 : PV → PV → Option PV
  | .int i, .int j => some (.int (if j < i then j else i))
  | _, _ => none
def pLen : PV → Option PV
  | .lst xs => some (.int xs.length)
  | .tup xs => some (.int xs.length)
  | _ => none
def blsOf : List PV → Option (List Bool)
  | [] => some []
  | .bl b :: r => (blsOf r).map fun s => b :: s
  | _ => none
def pAll : PV → Option PV
  | .lst xs => (blsOf xs).map fun bs => .bl (bs.all id)
  | _ => none
def pAny : PV → Option PV
  | .lst xs => (blsOf xs).map fun bs => .bl (bs.any id)
  | _ => none
def pTuple : PV → Option PV
  | .lst xs => some (.tup xs)
  | .tup xs => some (.tup xs)
  | _ => none
def pList : PV → Option PV
  | .lst xs => some (.lst xs)
  | .tup xs => some (.lst xs)
  | _ => none
def pIdx : PV → PV → Option PV
  | .lst xs, .int i => atI xs i
  | .tup xs, .int i => atI xs i
  | _, _ => none
def flatP : PV → Bool
  | .non => true | .bl _ => true | .int _ => true | .str _ => true
  | _ => false
def pIn (x y : PV) : Option PV := match y with
  | .lst ys => if flatP x && ys.all flatP then some (.bl (ys.any fun z => z.eq x)) else if x.sh 16 && PV.shL ys 16 then some (.bl (ys.any fun z => z.eq x)) else none
  | .tup ys => if flatP x && ys.all flatP then some (.bl (ys.any fun z => z.eq x)) else none
  | _ => none
def pNotIn (x y : PV) : Option PV := match pIn x y with
  | some (.bl b) => some (.bl (!b))
  | _ => none
inductive Ty where | int | bool | tuple | list | dict | str
  deriving DecidableEq
def Ty.nm : Ty → String
  | .int => "int" | .bool => "bool" | .tuple => "tuple" | .list => "list" | .dict => "dict" | .str => "str"
def pIsI (T : Ty) : PV → Option PV
  | .non => some (.bl false)
  | .bl _ => some (.bl (decide (T = .bool ∨ T = .int)))
  | .int _ => some (.bl (decide (T = .int)))
  | .str _ => some (.bl (decide (T = .str)))
  | .tup _ => some (.bl (decide (T = .tuple)))
  | .lst _ => some (.bl (decide (T = .list)))
  | .dI _ => some (.bl (decide (T = .dict)))
  | .dT _ => some (.bl (decide (T = .dict)))
  | _ => none
end Hw

set_option maxRecDepth 100000
set_option maxHeartbeats 4000000
namespace Hw
open PySem PySem.Spec L2
section
variable {X : Cx} {C : Kx → Addr} {K : PySem.W.Frag} {F F' H H' : Hp} {ρ : List Addr}
/-! ### reading what is seen -/
theorem Seen.int {x : V} {i : Int} (h : Seen K C F ρ H x (.int i)) : x = .int i := by
  rcases h with h | ⟨a, _, h⟩
  · cases h; rfl
  · exact h.elim
theorem Seen.bl {x : V} {i : Bool} (h : Seen K C F ρ H x (.bl i)) : x = .bl i := by
  rcases h with h | ⟨a, _, h⟩
  · cases h; rfl
  · exact h.elim
theorem Seen.non {x : V} (h : Seen K C F ρ H x .non) : x = .non := by
  rcases h with h | ⟨a, _, h⟩
  · cases h; rfl
  · exact h.elim
theorem Seen.str {x : V} {i : Str} (h : Seen K C F ρ H x (.str i)) : x = .str i := by
  rcases h with h | ⟨a, _, h⟩
  · cases h; rfl
  · exact h.elim
theorem Seen.tup {x : V} {xs : List PV} (h : Seen K C F ρ H x (.tup xs)) : ∃ a vs, x = .ref a ∧ SqT K F a vs ∧ RepL K C F ρ vs xs := by
  rcases h with h | ⟨a, _, h⟩
  · cases h with | tup q r => exact ⟨_, _, rfl, q, r⟩
  · exact h.elim
theorem Seen.lst {x : V} {xs : List PV} (hf : Le F H) (h : Seen K C F ρ H x (.lst xs)) : ∃ a vs, x = .ref a ∧ Rd H a (.lst vs) ∧ RepL K C F ρ vs xs := by
  rcases h with h | ⟨a, e, h⟩
  · cases h with | lst q r => exact ⟨_, _, rfl, Rd.le hf q, r⟩
  · obtain ⟨vs, h1, h2⟩ := h; exact ⟨a, vs, e, h1, h2⟩
/-- a new tuple, a new list of what is plain -/
theorem new_tup {Q : VK} {vs : List V} {xs : List PV} (hf : Le F H) (r : RepL K C F ρ vs xs) (h : ∀ F' H' q, Grow F H F' H' → Rep K C F' ρ q (.tup xs) → Q q H') : ∀ p, H p = none → Q (.ref p) (upd H p (.tup vs)) := fun p hp =>
  let g := Grow.one (o := .tup vs) hf hp
  h _ _ _ g (.tup (SqT.of upd_same) (RepL.le g.ff (fun _ _ e => e) r))
theorem new_lst {Q : VK} {vs : List V} {xs : List PV} (hf : Le F H) (r : RepL K C F ρ vs xs) (h : ∀ F' H' q, Grow F H F' H' → Rep K C F' ρ q (.lst xs) → Q q H') : ∀ p, H p = none → Q (.ref p) (upd H p (.lst vs)) := fun p hp =>
  let g := Grow.one (o := .lst vs) hf hp
  h _ _ _ g (.lst (Rd.of upd_same) (RepL.le g.ff (fun _ _ e => e) r))
theorem Rd.sq {a : Addr} {vs : List V} (h : Rd H a (.lst vs)) : SqL K H a vs := .inl h
theorem mill {n : Nat} (h : n ≤ 1000000) : n ≤ sizeLine := Nat.le_trans h (by decide)

/-! ### ints -/
theorem f_int2 {f : PV → PV → Option PV} {Cd : Int → Int → Prop} {g : Int → Int → V} {gp : Int → Int → PV} (hg : ∀ i j F ρ, Rep K C F ρ (g i j) (gp i j)) (hf : ∀ u v z, f u v = some z → ∃ i j, u = .int i ∧ v = .int j ∧ Cd i j ∧ z = gp i j) : ∀ (F H : Hp) (ρ : List Addr) (x y : V) (u v z : PV) (Q : VK), Le F H → Seen K C F ρ H x u → Seen K C F ρ H y v → f u v = some z →
    (∀ F' H' q, Grow F H F' H' → Rep K C F' ρ q z → Q q H') → rI Cd g x y H Q := by
  intro F H ρ x y u v z Q hF hx hy e h
  obtain ⟨i, j, rfl, rfl, hc, rfl⟩ := hf u v z e
  cases hx.int
  cases hy.int
  exact ⟨i, j, rfl, rfl, hc, h F H _ (Grow.refl hF) (hg i j F ρ)⟩
theorem f_int0 {f : PV → PV → Option PV} {g : Int → Int → V} {gp : Int → Int → PV} (hg : ∀ i j F ρ, Rep K C F ρ (g i j) (gp i j)) (hf : ∀ u v z, f u v = some z → ∃ i j, u = .int i ∧ v = .int j ∧ z = gp i j) : ∀ (F H : Hp) (ρ : List Addr) (x y : V) (u v z : PV) (Q : VK), Le F H → Seen K C F ρ H x u → Seen K C F ρ H y v → f u v = some z →
    (∀ F' H' q, Grow F H F' H' → Rep K C F' ρ q z → Q q H') → rI0 g x y H Q := by
  intro F H ρ x y u v z Q hF hx hy e h
  obtain ⟨i, j, rfl, rfl, rfl⟩ := hf u v z e
  cases hx.int
  cases hy.int
  exact ⟨i, j, rfl, rfl, h F H _ (Grow.refl hF) (hg i j F ρ)⟩
theorem s_sub : Op2 K pSub (rI0 fun i j => .int (i - j)) := fun C => f_int0 (gp := fun i j => .int (i - j)) (fun _ _ _ _ => .int _) fun u v z e => by
  cases u <;> cases v <;> first | (cases e; exact ⟨_, _, rfl, rfl, rfl⟩) | cases e
theorem s_lt : Op2 K pLt (rI0 fun i j => .bl (decide (i < j))) := fun C => f_int0 (gp := fun i j => .bl (decide (i < j))) (fun _ _ _ _ => .bl _) fun u v z e => by
  cases u <;> cases v <;> first | (cases e; exact ⟨_, _, rfl, rfl, rfl⟩) | cases e
theorem s_le : Op2 K pLe (rI0 fun i j => .bl (decide (i ≤ j))) := fun C => f_int0 (gp := fun i j => .bl (decide (i ≤ j))) (fun _ _ _ _ => .bl _) fun u v z e => by
  cases u <;> cases v <;> first | (cases e; exact ⟨_, _, rfl, rfl, rfl⟩) | cases e
theorem s_gt : Op2 K pGt (rI0 fun i j => .bl (decide (j < i))) := fun C => f_int0 (gp := fun i j => .bl (decide (j < i))) (fun _ _ _ _ => .bl _) fun u v z e => by
  cases u <;> cases v <;> first | (cases e; exact ⟨_, _, rfl, rfl, rfl⟩) | cases e
theorem s_ge : Op2 K pGe (rI0 fun i j => .bl (decide (j ≤ i))) := fun C => f_int0 (gp := fun i j => .bl (decide (j ≤ i))) (fun _ _ _ _ => .bl _) fun u v z e => by
  cases u <;> cases v <;> first | (cases e; exact ⟨_, _, rfl, rfl, rfl⟩) | cases e
theorem s_mod : Op2 K pMod (rI (fun _ j => 0 < j) fun i j => .int (i % j)) := fun C => f_int2 (gp := fun i j => .int (i % j)) (fun _ _ _ _ => .int _) fun u v z e => by
  cases u with
  | int i =>
    cases v with
    | int j =>
      unfold pMod at e
      dsimp only at e
      split at e
      · cases e; exact ⟨_, _, rfl, rfl, by assumption, rfl⟩
      · cases e
    | _ => cases e
  | _ => cases e
theorem s_div : Op2 K pDiv (rI CDiv fun i j => .int (i / j)) := fun C => f_int2 (gp := fun i j => .int (i / j)) (fun _ _ _ _ => .int _) fun u v z e => by
  cases u with
  | int i =>
    cases v with
    | int j =>
      unfold pDiv at e
      dsimp only at e
      split at e
      · cases e; exact ⟨_, _, rfl, rfl, by assumption, rfl⟩
      · cases e
    | _ => cases e
  | _ => cases e
theorem s_pow : Op2 K pPow (rI CPow fun i j => .int (i ^ j.toNat)) := fun C => f_int2 (gp := fun i j => .int (i ^ j.toNat)) (fun _ _ _ _ => .int _) fun u v z e => by
  cases u with
  | int i =>
    cases v with
    | int j =>
      unfold pPow at e
      dsimp only at e
      split at e
      · cases e; exact ⟨_, _, rfl, rfl, by assumption, rfl⟩
      · cases e
    | _ => cases e
  | _ => cases e
theorem s_neg : Op1 K pNeg (rU fun i => .int (-i)) := by
  intro C F H ρ x u z Q hF hx e h
  cases u <;> first | (cases e; done) | (cases e; cases hx.int; exact ⟨_, rfl, h F H _ (Grow.refl hF) (.int _)⟩)
theorem s_abs : Op1 K pAbs fun x H Q => ∃ i, [x] = [V.int i] ∧ Q (.int (if i < 0 then -i else i)) H := by
  intro C F H ρ x u z Q hF hx e h
  cases u <;> first | (cases e; done) | (cases e; cases hx.int; exact ⟨_, rfl, h F H _ (Grow.refl hF) (.int _)⟩)
theorem s_max2 : Op2 K pMax2 fun x y H Q => ∃ i j, [x, y] = [V.int i, .int j] ∧ Q (.int (if j > i then j else i)) H := by
  intro C F H ρ x y u v z Q hF hx hy e h
  cases u <;> cases v <;> first | (cases e; done) | (cases e; cases hx.int; cases hy.int; exact ⟨_, _, rfl, h F H _ (Grow.refl hF) (.int _)⟩)
theorem s_min2 : Op2 K pMin2 fun x y H Q => ∃ i j, [x, y] = [V.int i, .int j] ∧ Q (.int (if j < i then j else i)) H := by
  intro C F H ρ x y u v z Q hF hx hy e h
  cases u <;> cases v <;> first | (cases e; done) | (cases e; cases hx.int; cases hy.int; exact ⟨_, _, rfl, h F H _ (Grow.refl hF) (.int _)⟩)

/-! ### + and * -/
theorem Inv.lstR {pins : List (Addr × Obj)} {σ : L2.St} {s : Shared} {l : Addr} {xs : List V} (I : Inv X pins σ H s) (h : Rd H l (.lst xs)) : xs.length ≤ sizeLine ∧ ∃ (its : List Value) (n : Nat), Vals xs its ∧ xs.length = its.length ∧ s.heap.get? l = some { cls := .type "list", data := .seq its.toArray n } := by
  obtain ⟨z, its, n, r, e⟩ := h.ok I.hok
  exact ⟨z, its, n, r, r.length, e⟩
def rCatR : R2 := fun x y H Q => ∃ l b xs zs, x = .ref l ∧ y = .ref b ∧ Rd H l (.lst xs) ∧ Rd H b (.lst zs) ∧ xs.length + zs.length ≤ sizeLine ∧ ∀ p, H p = none → Q (.ref p) (upd H p (.lst (xs ++ zs)))
theorem op_catR : OpR X (binaryOp .Add) rCatR := by
  intro pins s σ H x y v u Q I rx ry h
  obtain ⟨l, b, xs, zs, rfl, rfl, hH, hB, hz, q⟩ := h
  cases rx
  cases ry
  obtain ⟨z, its, n, r, hl, e⟩ := Inv.lstR I hH
  obtain ⟨z2, its2, n2, r2, hl2, e2⟩ := Inv.lstR I hB
  refine PySem.P.add_list e e2 ?_ (by rw [List.size_toArray, List.size_toArray]; omega)
  have ea : its.toArray ++ its2.toArray = (its ++ its2).toArray := by simp
  rw [ea]
  exact ⟨.ref _, _, I.lnew (t' := s.toks) (r.append r2) (by rw [List.length_append]; omega), rfl, q _ I.fresh⟩
def rAddX (K : PySem.W.Frag) : R2 := fun x y H Q => (rI0 (fun i j => V.int (i + j)) x y H Q ∨ rCatR x y H Q) ∨ rCatA K x y H Q
theorem o_add : OpR X (binaryOp .Add) (rAddX X.K) := (op_add.or op_catR).or op_catA
theorem s_add : Op2 K pAdd (rAddX K) := by
  intro C F H ρ x y u v z Q hF hx hy e h
  cases u <;> cases v <;> first | (cases e; done) | skip
  · cases e
    cases hx.int
    cases hy.int
    exact .inl (.inl ⟨_, _, rfl, rfl, h F H _ (Grow.refl hF) (.int _)⟩)
  · unfold pAdd at e
    dsimp only at e
    split at e
    · cases e
      rename_i hl
      obtain ⟨a, vs, rfl, q, r⟩ := hx.tup
      obtain ⟨b, ws, rfl, q2, r2⟩ := hy.tup
      refine .inr ⟨a, b, vs, ws, rfl, rfl, SqT.le hF q, SqT.le hF q2, by rw [r.length, r2.length]; exact mill hl, fun n => ?_, fun _ n => ?_, fun _ _ => new_tup hF (r.append r2) h⟩
      · subst n
        cases r
        exact h F H _ (Grow.refl hF) (.tup q2 r2)
      · subst n
        cases r2
        exact h F H _ (Grow.refl hF) (.tup q (by rw [List.append_nil]; exact r))
    · cases e
  · unfold pAdd at e
    dsimp only at e
    split at e
    · cases e
      rename_i hl
      obtain ⟨a, vs, rfl, q, r⟩ := hx.lst hF
      obtain ⟨b, ws, rfl, q2, r2⟩ := hy.lst hF
      exact .inl (.inr ⟨a, b, vs, ws, rfl, rfl, q, q2, by rw [r.length, r2.length]; exact mill hl, new_lst hF (r.append r2) h⟩)
    · cases e
theorem RepL.rep {vs : List V} {xs : List PV} (r : RepL K C F ρ vs xs) : ∀ k : Nat, RepL K C F ρ (List.replicate k vs).flatten (List.replicate k xs).flatten
  | 0 => .nil
  | k + 1 => by
    rw [List.replicate_succ, List.replicate_succ, List.flatten_cons, List.flatten_cons]
    exact r.append (RepL.rep r k)
def rRepR : R2 := fun x y H Q => ∃ l k xs, x = .ref l ∧ y = .int k ∧ Rd H l (.lst xs) ∧ -(2 ^ 63) ≤ k ∧ k < 2 ^ 63 ∧ xs.length * k.toNat ≤ sizeLine ∧
  ∀ p, H p = none → Q (.ref p) (upd H p (.lst (List.replicate k.toNat xs).flatten))
theorem op_repR : OpR X (binaryOp .Mult) rRepR := by
  intro pins s σ H x y v u Q I rx ry h
  obtain ⟨l, k, xs, rfl, rfl, hH, h1, h2, hz, q⟩ := h
  cases rx
  obtain ⟨t, rfl⟩ := ry
  obtain ⟨z, its, n, r, hl, e⟩ := Inv.lstR I hH
  have hlen : its.toArray.size * k.toNat ≤ sizeLine := by rw [List.size_toArray, ← hl]; exact hz
  have hcap : ¬ its.toArray.size * k.toNat > (2 ^ 63 - 1) / 8 := by
    have : (sizeLine : Nat) ≤ (2 ^ 63 - 1) / 8 := by decide
    omega
  have hfit : ¬ (!Builtin.List.listFitsIndex k) = true := by
    rw [fitsIndex_both h1 h2]
    exact Bool.false_ne_true
  have hlong : ¬ Builtin.List.listTooLong (its.toArray.size * k.toNat) = true := by
    rw [notLongL hlen]
    exact Bool.false_ne_true
  have hnew : List.foldl (fun x1 x2 => x1 ++ x2) #[] (List.replicate (if its.toArray.isEmpty = true then 0 else k.toNat) its.toArray) = (List.replicate k.toNat its).flatten.toArray := by
    have f0 : ∀ m : Nat, List.foldl (fun x1 x2 => x1 ++ x2) #[] (List.replicate m its.toArray) = (List.replicate m its).flatten.toArray := fun m => by
      have := foldl_rep its m []
      rw [List.nil_append] at this
      exact this
    rw [f0]
    cases its with
    | nil => simp
    | cons a r' => rw [if_neg (by simp)]
  refine wpAny_binaryOp_repeat_ref (T := "list") (U := "int") (by decide) ⟨_, e, rfl⟩ (fun s' => typeIs_int s' k t) noFill_list_mul F.fills_int_mul F.slot_int_rmul repeat_list F.slot_int_index.lookup
    (call_meets F.slot_int_rmul (typeIs_int s k t) F.entry_int_rmul (F.args_int_rmul_2 _ _) (int___rmul___int_list k t l its.toArray n)
      ⟨e, rfl, ⟨_, e, rfl⟩, call_meets F.slot_list_mul ⟨_, e, rfl⟩ F.entry_list_mul (F.args_list_mul_2 _ _) (AutoListH.list___mul___list_int_3 l its.toArray n k t hfit hcap hlong) ⟨e, ?_⟩⟩)
  rw [hnew]
  exact ⟨.ref _, _, I.lnew (t' := s.toks) (r.rep k.toNat) (by rw [PyProof.Rows.lm_len_rep_flat, Nat.mul_comm]; exact hz), rfl, q _ I.fresh⟩
def rMulX (K : PySem.W.Frag) : R2 := fun x y H Q => (rI CMul (fun i j => V.int (i * j)) x y H Q ∨ rRepR x y H Q) ∨ rRepT K x y H Q
theorem o_mul : OpR X (binaryOp .Mult) (rMulX X.K) := (op_mul.or op_repR).or op_repT
theorem cmulB_ok {i j : Int} (h : cmulB i j = true) : CMul i j := by
  unfold cmulB at h
  simp only [Bool.or_eq_true, Bool.and_eq_true, decide_eq_true_eq] at h
  exact h
theorem s_mul : Op2 K pMul (rMulX K) := by
  intro C F H ρ x y u v z Q hF hx hy e h
  cases u <;> cases v <;> first | (cases e; done) | skip
  · unfold pMul at e
    dsimp only at e
    split at e
    · cases e
      rename_i hc
      cases hx.int
      cases hy.int
      exact .inl (.inl ⟨_, _, rfl, rfl, cmulB_ok hc, h F H _ (Grow.refl hF) (.int _)⟩)
    · cases e
  · unfold pMul at e
    dsimp only at e
    split at e
    · cases e
      rename_i hc
      simp only [Bool.and_eq_true, decide_eq_true_eq, Bool.not_eq_true'] at hc
      obtain ⟨⟨⟨h0, h1⟩, h2⟩, h3⟩ := hc
      obtain ⟨a, vs, rfl, q, r⟩ := hx.tup
      cases hy.int
      have hl := r.length
      refine .inr ⟨a, _, vs, rfl, rfl, SqT.le hF q, fun n => ?_, h1, h2, by omega, new_tup hF (r.rep _) h⟩
      subst n
      cases r
      cases h0
    · split at e <;> cases e
  · unfold pMul at e
    dsimp only at e
    split at e
    · cases e
      rename_i hc
      simp only [Bool.and_eq_true, decide_eq_true_eq] at hc
      obtain ⟨⟨h1, h2⟩, h3⟩ := hc
      obtain ⟨a, vs, rfl, q, r⟩ := hx.lst hF
      cases hy.int
      exact .inl (.inr ⟨a, _, vs, rfl, rfl, q, h1, h2, by rw [r.length]; exact mill h3, new_lst hF (r.rep _) h⟩)
    · cases e

/-! ### == and != -/
mutual
theorem eq_dat : ∀ (u v : PV) (n m : Nat), u.sh n = true → v.sh m = true → PyData.eqv u.dat v.dat = u.eq v
  | .tup xs, .tup ys, n, m, h1, h2 => by
    cases n with
    | zero => cases h1
    | succ n =>
      cases m with
      | zero => cases h2
      | succ m => exact eqL_dat xs ys n m h1 h2
  | .lst xs, .lst ys, n, m, h1, h2 => by
    cases n with
    | zero => cases h1
    | succ n =>
      cases m with
      | zero => cases h2
      | succ m => exact eqL_dat xs ys n m h1 h2
  | .dI _, _, n, _, h, _ => by cases n <;> cases h
  | .dT _, _, n, _, h, _ => by cases n <;> cases h
  | .exc _, _, n, _, h, _ => by cases n <;> cases h
  | .ptr _, _, n, _, h, _ => by cases n <;> cases h
  | .kls _, _, n, _, h, _ => by cases n <;> cases h
  | u, .dI _, _, m, _, h => by cases m <;> cases h
  | u, .dT _, _, m, _, h => by cases m <;> cases h
  | u, .exc _, _, m, _, h => by cases m <;> cases h
  | u, .ptr _, _, m, _, h => by cases m <;> cases h
  | u, .kls _, _, m, _, h => by cases m <;> cases h
  | .non, .non, _, _, _, _ => rfl
  | .non, .bl _, _, _, _, _ => rfl
  | .non, .int _, _, _, _, _ => rfl
  | .non, .str _, _, _, _, _ => rfl
  | .non, .tup _, _, _, _, _ => rfl
  | .non, .lst _, _, _, _, _ => rfl
  | .bl _, .non, _, _, _, _ => rfl
  | .bl _, .bl _, _, _, _, _ => rfl
  | .bl _, .int _, _, _, _, _ => rfl
  | .bl _, .str _, _, _, _, _ => rfl
  | .bl _, .tup _, _, _, _, _ => rfl
  | .bl _, .lst _, _, _, _, _ => rfl
  | .int _, .non, _, _, _, _ => rfl
  | .int _, .bl _, _, _, _, _ => rfl
  | .int _, .int _, _, _, _, _ => rfl
  | .int _, .str _, _, _, _, _ => rfl
  | .int _, .tup _, _, _, _, _ => rfl
  | .int _, .lst _, _, _, _, _ => rfl
  | .str _, .non, _, _, _, _ => rfl
  | .str _, .bl _, _, _, _, _ => rfl
  | .str _, .int _, _, _, _, _ => rfl
  | .str _, .str _, _, _, _, _ => rfl
  | .str _, .tup _, _, _, _, _ => rfl
  | .str _, .lst _, _, _, _, _ => rfl
  | .tup _, .non, _, _, _, _ => rfl
  | .tup _, .bl _, _, _, _, _ => rfl
  | .tup _, .int _, _, _, _, _ => rfl
  | .tup _, .str _, _, _, _, _ => rfl
  | .tup _, .lst _, _, _, _, _ => rfl
  | .lst _, .non, _, _, _, _ => rfl
  | .lst _, .bl _, _, _, _, _ => rfl
  | .lst _, .int _, _, _, _, _ => rfl
  | .lst _, .str _, _, _, _, _ => rfl
  | .lst _, .tup _, _, _, _, _ => rfl
termination_by structural u => u
theorem eqL_dat : ∀ (xs ys : List PV) (n m : Nat), PV.shL xs n = true → PV.shL ys m = true → PyData.eqvAll (PV.datL xs) (PV.datL ys) = PV.eqL xs ys
  | [], [], _, _, _, _ => rfl
  | [], _ :: _, _, _, _, _ => rfl
  | _ :: _, [], _, _, _, _ => rfl
  | x :: xs, y :: ys, n, m, h1, h2 => by
    have h1 : (x.sh n && PV.shL xs n) = true := h1
    have h2 : (y.sh m && PV.shL ys m) = true := h2
    obtain ⟨a1, a2⟩ := Bool.and_eq_true_iff.mp h1
    obtain ⟨b1, b2⟩ := Bool.and_eq_true_iff.mp h2
    show PyData.eqvAll (x.dat :: PV.datL xs) (y.dat :: PV.datL ys) = (x.eq y && PV.eqL xs ys)
    rw [PyData.eqvAll, eq_dat x y n m a1 b1, eqL_dat xs ys n m a2 b2]
termination_by structural u => u
end
mutual
theorem sh_dat : ∀ (u : PV) (n : Nat), u.sh n = true → u.dat.canLay0 = true ∧ u.dat.depth ≤ n
  | .non, _, _ => ⟨rfl, Nat.zero_le _⟩
  | .bl _, _, _ => ⟨rfl, Nat.zero_le _⟩
  | .int _, _, _ => ⟨rfl, Nat.zero_le _⟩
  | .str x, _, h => ⟨h, Nat.zero_le _⟩
  | .tup xs, n, h => by
    cases n with
    | zero => cases h
    | succ n =>
      obtain ⟨a, b⟩ := shL_dat xs n h
      exact ⟨a, Nat.succ_le_succ b⟩
  | .lst xs, n, h => by
    cases n with
    | zero => cases h
    | succ n =>
      obtain ⟨a, b⟩ := shL_dat xs n h
      exact ⟨a, Nat.succ_le_succ b⟩
  | .dI _, n, h => by cases n <;> cases h
  | .dT _, n, h => by cases n <;> cases h
  | .exc _, n, h => by cases n <;> cases h
  | .ptr _, n, h => by cases n <;> cases h
  | .kls _, n, h => by cases n <;> cases h
termination_by structural u => u
theorem shL_dat : ∀ (u : List PV) (n : Nat), PV.shL u n = true → PyData.canLayAll0 (PV.datL u) = true ∧ PyData.depthAll (PV.datL u) ≤ n
  | [], n, _ => ⟨rfl, Nat.zero_le _⟩
  | x :: xs, n, h => by
    have h : (x.sh n && PV.shL xs n) = true := h
    obtain ⟨a1, a2⟩ := Bool.and_eq_true_iff.mp h
    obtain ⟨b1, b2⟩ := sh_dat x n a1
    obtain ⟨c1, c2⟩ := shL_dat xs n a2
    refine ⟨?_, ?_⟩
    · show PyData.canLayAll0 (x.dat :: PV.datL xs) = true
      rw [PyData.canLayAll0, b1, c1] <;> rfl
    · show PyData.depthAll (x.dat :: PV.datL xs) ≤ n
      rw [PyData.depthAll]
      exact Nat.max_le.mpr ⟨b2, c2⟩
termination_by structural u => u
end
theorem sh_shaped {u : PV} (h : u.sh 16 = true) : SeqAt.shaped u.dat = true := by
  obtain ⟨a, b⟩ := sh_dat u 16 h
  unfold SeqAt.shaped
  rw [a, Bool.true_and, decide_eq_true_eq]
  omega
mutual
theorem rep_dp (hF : Le F H) : ∀ {x : V} {u : PV} (n : Nat), Rep K C F ρ x u → u.sh n = true → Dp K H x u.dat
  | _, _, _, .non, _ => .non
  | _, _, _, .bl b, _ => .bl b
  | _, _, _, .int b, _ => .int b
  | _, _, _, .str b, _ => .str b
  | _, _, n, .tup q r, h => by
    cases n with
    | zero => cases h
    | succ n => exact .tup (SqT.le hF q) (repL_dp hF n r h)
  | _, _, n, .lst q r, h => by
    cases n with
    | zero => cases h
    | succ n => exact .lst (.inl (Rd.le hF q)) (repL_dp hF n r h)
  | _, _, n, .dI _ _, h => by cases n <;> cases h
  | _, _, n, .dT _ _, h => by cases n <;> cases h
  | _, _, n, .exc _, h => by cases n <;> cases h
  | _, _, n, .ptr _, h => by cases n <;> cases h
  | _, _, n, .kls _, h => by cases n <;> cases h
theorem repL_dp (hF : Le F H) : ∀ {x : List V} {u : List PV} (n : Nat), RepL K C F ρ x u → PV.shL u n = true → DpAll K H x (PV.datL u)
  | _, _, _, .nil, _ => .nil
  | _, _, n, .cons r s, h => .cons (rep_dp hF n r (Bool.and_eq_true_iff.mp h).1) (repL_dp hF n s (Bool.and_eq_true_iff.mp h).2)
end
theorem seen_dp {x : V} {u : PV} {n : Nat} (hF : Le F H) (h : Seen K C F ρ H x u) (s : u.sh n = true) : Dp K H x u.dat := by
  rcases h with h | ⟨a, rfl, h⟩
  · exact rep_dp hF n h s
  · cases u with
    | lst xs =>
      obtain ⟨vs, h1, h2⟩ := h
      cases n with
      | zero => cases s
      | succ n => exact .lst (.inl h1) (repL_dp hF n h2 s)
    | dI _ => cases n <;> cases s
    | dT _ => cases n <;> cases s
    | _ => exact h.elim
theorem s_eq : Op2 K pEq (rEqD K) := by
  intro C F H ρ x y u v z Q hF hx hy e h
  unfold pEq at e
  split at e
  · rename_i hs
    obtain ⟨a, b⟩ := Bool.and_eq_true_iff.mp hs
    cases e
    refine ⟨u.dat, v.dat, seen_dp hF hx a, seen_dp hF hy b, sh_shaped a, sh_shaped b, ?_⟩
    rw [eq_dat u v 16 16 a b]
    exact h F H _ (Grow.refl hF) (.bl _)
  · cases e
theorem s_ne : Op2 K pNe (rNeD K) := by
  intro C F H ρ x y u v z Q hF hx hy e h
  unfold pNe at e
  split at e
  · rename_i hs
    obtain ⟨a, b⟩ := Bool.and_eq_true_iff.mp hs
    cases e
    refine ⟨u.dat, v.dat, seen_dp hF hx a, seen_dp hF hy b, sh_shaped a, sh_shaped b, ?_⟩
    rw [eq_dat u v 16 16 a b]
    exact h F H _ (Grow.refl hF) (.bl _)
  · cases e
def rIsX : R2 := fun x y H Q => (y = .non ∧ Q (.bl (decide (x = .non))) H) ∨ (∃ a b, x = .bl a ∧ y = .bl b ∧ Q (.bl (decide (a = b))) H)
def rIsNotX : R2 := fun x y H Q => (y = .non ∧ Q (.bl (!decide (x = .non))) H) ∨ (∃ a b, x = .bl a ∧ y = .bl b ∧ Q (.bl (!decide (a = b))) H)
theorem o_is : OpR X (compareOp .Is) rIsX := op_isN.or op_is_bl
theorem o_isnot : OpR X (compareOp .IsNot) rIsNotX := op_notN.or op_isnot_bl
theorem Seen.isnon {x : V} {u : PV} (h : Seen K C F ρ H x u) : decide (x = .non) = (match u with | .non => true | _ => false) := by
  rcases h with h | ⟨a, rfl, h⟩
  · cases h <;> rfl
  · cases u <;> first | rfl | exact h.elim
theorem s_is : Op2 K pIs rIsX := by
  intro C F H ρ x y u v z Q hF hx hy e h
  cases v with
  | non =>
    have hy := hy.non
    subst hy
    refine .inl ⟨rfl, ?_⟩
    rw [hx.isnon]
    cases u <;> (cases e; exact h F H _ (Grow.refl hF) (.bl _))
  | bl b =>
    cases u with
    | bl a =>
      cases e
      exact .inr ⟨_, _, hx.bl, hy.bl, h F H _ (Grow.refl hF) (.bl _)⟩
    | _ => cases e
  | _ => cases u <;> cases e
theorem s_isnot : Op2 K pIsNot rIsNotX := by
  intro C F H ρ x y u v z Q hF hx hy e h
  cases v with
  | non =>
    have hy := hy.non
    subst hy
    refine .inl ⟨rfl, ?_⟩
    rw [hx.isnon]
    cases u <;> (cases e; exact h F H _ (Grow.refl hF) (.bl _))
  | bl b =>
    cases u with
    | bl a =>
      cases e
      exact .inr ⟨_, _, hx.bl, hy.bl, h F H _ (Grow.refl hF) (.bl _)⟩
    | _ => cases e
  | _ => cases u <;> cases e

/-! ### len, all, any, tuple, list, items -/
theorem s_len : Op1 K pLen fun x H Q => ∃ p ys, [x] = [V.ref p] ∧ (SqL K H p ys ∨ SqT K H p ys) ∧ Q (.int ys.length) H := by
  intro C F H ρ x u z Q hF hx e h
  cases u with
  | lst xs =>
    cases e
    obtain ⟨a, vs, rfl, q, r⟩ := hx.lst hF
    exact ⟨a, vs, rfl, .inl (.inl q), by rw [r.length]; exact h F H _ (Grow.refl hF) (.int _)⟩
  | tup xs =>
    cases e
    obtain ⟨a, vs, rfl, q, r⟩ := hx.tup
    exact ⟨a, vs, rfl, .inr (SqT.le hF q), by rw [r.length]; exact h F H _ (Grow.refl hF) (.int _)⟩
  | _ => cases e
theorem blsOf_some : ∀ {xs : List PV} {bs : List Bool}, blsOf xs = some bs → xs = bs.map .bl
  | [], _, h => by cases h; rfl
  | .bl b :: r, _, h => by
    obtain ⟨s, h1, rfl⟩ := Option.map_eq_some_iff.mp (show (blsOf r).map (fun s => b :: s) = some _ from h)
    rw [blsOf_some h1]; rfl
  | .non :: _, _, h => by cases h
  | .int _ :: _, _, h => by cases h
  | .str _ :: _, _, h => by cases h
  | .tup _ :: _, _, h => by cases h
  | .lst _ :: _, _, h => by cases h
  | .dI _ :: _, _, h => by cases h
  | .dT _ :: _, _, h => by cases h
  | .exc _ :: _, _, h => by cases h
  | .ptr _ :: _, _, h => by cases h
theorem blsOf_map (bs : List Bool) : blsOf (bs.map .bl) = some bs := by
  induction bs with
  | nil => rfl
  | cons b bs ih => show (blsOf (bs.map .bl)).map (fun s => b :: s) = _; rw [ih]; rfl
theorem s_all : Op1 K pAll fun x H Q => rAll K [x] H Q := by
  intro C F H ρ x u z Q hF hx e h
  cases u with
  | lst xs =>
    obtain ⟨bs, h1, rfl⟩ := Option.map_eq_some_iff.mp (show (blsOf xs).map (fun bs => PV.bl (bs.all id)) = some z from e)
    obtain ⟨a, vs, rfl, q, r⟩ := hx.lst hF
    rw [blsOf_some h1] at r
    cases r.bls_inv
    exact ⟨a, bs, rfl, .inl q, h F H _ (Grow.refl hF) (.bl _)⟩
  | _ => cases e
theorem s_any : Op1 K pAny fun x H Q => rAny K [x] H Q := by
  intro C F H ρ x u z Q hF hx e h
  cases u with
  | lst xs =>
    obtain ⟨bs, h1, rfl⟩ := Option.map_eq_some_iff.mp (show (blsOf xs).map (fun bs => PV.bl (bs.any id)) = some z from e)
    obtain ⟨a, vs, rfl, q, r⟩ := hx.lst hF
    rw [blsOf_some h1] at r
    cases r.bls_inv
    exact ⟨a, bs, rfl, .inl q, h F H _ (Grow.refl hF) (.bl _)⟩
  | _ => cases e
theorem s_tuple : Op1 K pTuple fun x H Q => ∃ p ys, [x] = [V.ref p] ∧ ((SqL K H p ys ∧ ∀ l, H l = none → Q (.ref l) (upd H l (.tup ys))) ∨ (SqT K H p ys ∧ Q (.ref p) H)) := by
  intro C F H ρ x u z Q hF hx e h
  cases u with
  | lst xs =>
    cases e
    obtain ⟨a, vs, rfl, q, r⟩ := hx.lst hF
    exact ⟨a, vs, rfl, .inl ⟨.inl q, new_tup hF r h⟩⟩
  | tup xs =>
    cases e
    obtain ⟨a, vs, rfl, q, r⟩ := hx.tup
    exact ⟨a, vs, rfl, .inr ⟨SqT.le hF q, h F H _ (Grow.refl hF) (.tup q r)⟩⟩
  | _ => cases e
theorem s_list : Op1 K pList fun x H Q => ∃ p ys, [x] = [V.ref p] ∧ (SqL K H p ys ∨ SqT K H p ys) ∧ ∀ l, H l = none → Q (.ref l) (upd H l (.lst ys)) := by
  intro C F H ρ x u z Q hF hx e h
  cases u with
  | lst xs =>
    cases e
    obtain ⟨a, vs, rfl, q, r⟩ := hx.lst hF
    exact ⟨a, vs, rfl, .inl (.inl q), new_lst hF r h⟩
  | tup xs =>
    cases e
    obtain ⟨a, vs, rfl, q, r⟩ := hx.tup
    exact ⟨a, vs, rfl, .inr (SqT.le hF q), new_lst hF r h⟩
  | _ => cases e
theorem atI_rep {vs : List V} {xs : List PV} {i : Int} {z : PV} (r : RepL K C F ρ vs xs) (h : atI xs i = some z) : ∃ v, atI vs i = some v ∧ Rep K C F ρ v z := by
  unfold atI at h ⊢
  obtain ⟨j, h1, h2⟩ := Option.bind_eq_some_iff.mp h
  obtain ⟨v, h3, h4⟩ := r.get h2
  exact ⟨v, by rw [r.length, h1]; exact h3, h4⟩
def rIxX (K : PySem.W.Frag) : R2 := fun x y H Q => rIxL K x y H Q ∨ rIxT K x y H Q
theorem o_ix : IxR X (rIxX X.K) := ix_list.or ix_tup
theorem s_ix : Op2 K pIdx (rIxX K) := by
  intro C F H ρ x y u v z Q hF hx hy e h
  cases u with
  | lst xs =>
    cases v with
    | int i =>
      obtain ⟨a, vs, rfl, q, r⟩ := hx.lst hF
      obtain ⟨v, h1, h2⟩ := atI_rep r (show atI xs i = some z from e)
      exact .inl ⟨a, vs, i, v, rfl, hy.int, .inl q, h1, h F H _ (Grow.refl hF) h2⟩
    | _ => cases e
  | tup xs =>
    cases v with
    | int i =>
      obtain ⟨a, vs, rfl, q, r⟩ := hx.tup
      obtain ⟨v, h1, h2⟩ := atI_rep r (show atI xs i = some z from e)
      exact .inr ⟨a, vs, i, v, rfl, hy.int, SqT.le hF q, h1, h F H _ (Grow.refl hF) h2⟩
    | _ => cases e
  | _ => cases e
end
end Hw

set_option maxRecDepth 100000
set_option maxHeartbeats 4000000
namespace Hw
open PySem PySem.Spec L2

/-! ### objects that change -/
def eBox (d : Ex) : Ex := fun env S => (d env S).bind fun v S => .ok (.ptr S.length) (S ++ [v])
def sFz (i : Nat) : Sm := fun env S => match env[i]? with
  | some (.own (.lst xs)) => .nx (env.set i (.v (.lst xs))) S
  | some (.v x) => .nx env S
  | _ => .bad
def appP (u v : PV) : Option PV := match u with
  | .lst xs => if xs.length ≤ 1000000 then some (.lst (xs ++ [v])) else none
  | _ => none
def setP (u k v : PV) : Option PV := match u, k with
  | .lst xs, .int i => (ixN xs.length i).map fun j => .lst (xs.set j v)
  | _, _ => none
def isL : PV → Bool
  | .lst _ => true
  | _ => false
def sApp (i : Nat) (d : Ex) : Sm := fun env S => match env[i]? with
  | some (.own (.lst xs)) => match d env S with
    | .ok v S => match appP (.lst xs) v with
      | some u' => .nx (env.set i (.own u')) S
      | none => .bad
    | .ex c S => .ex c env S
    | .bad => .bad
  | _ => .bad
def sAppC (o d : Ex) : Sm := fun env S => match o env S with
  | .ok (.ptr n) S => match S[n]? with
    | some (.lst _) => match d env S with
      | .ok v S => match S[n]? with
        | some u => match appP u v with
          | some u' => .nx env (S.set n u')
          | none => .bad
        | none => .bad
      | .ex c S => .ex c env S
      | .bad => .bad
    | _ => .bad
  | .ok _ _ => .bad
  | .ex c S => .ex c env S
  | .bad => .bad
def sSetI (i : Nat) (k d : Ex) : Sm := fun env S => match d env S with
  | .ok v S => match env[i]? with
    | some (.own u) => match k env S with
      | .ok kv S => match setP u kv v with
        | some u' => .nx (env.set i (.own u')) S
        | none => .bad
      | .ex c S => .ex c env S
      | .bad => .bad
    | _ => .bad
  | .ex c S => .ex c env S
  | .bad => .bad
def sSetC (o k d : Ex) : Sm := fun env S => match d env S with
  | .ok v S => match o env S with
    | .ok (.ptr n) S => match k env S with
      | .ok kv S => match S[n]? with
        | some u => match setP u kv v with
          | some u' => .nx env (S.set n u')
          | none => .bad
        | none => .bad
      | .ex c S => .ex c env S
      | .bad => .bad
    | .ok _ _ => .bad
    | .ex c S => .ex c env S
    | .bad => .bad
  | .ex c S => .ex c env S
  | .bad => .bad
/-- the list without the item at a place, the item -/
def popP (u k : PV) : Option (PV × PV) := match u, k with
  | .lst xs, .int i => if decide (-(2 ^ 63) ≤ i) && decide (i < 2 ^ 63) then (seqIndex? i xs.length).bind fun j => (xs[j]?).map fun y => (.lst (xs.eraseIdx j), y) else none
  | _, _ => none
/-- x = l.pop(k) -/
def sPop (t i : Nat) (k : Ex) : Sm := fun env S => match env[i]? with
  | some (.own (.lst xs)) => match k env S with
    | .ok kv S => match popP (.lst xs) kv with
      | some (u', y) => match setV t (.v y) (env.set i (.own u')) with
        | some env => if t = i then .bad else .nx env S
        | none => .bad
      | none => .bad
    | .ex c S => .ex c env S
    | .bad => .bad
  | _ => .bad

section
variable {X : Cx} {C : Kx → Addr} {E : WX} {a b c e tg : Expr} {da db dc : Ex} {sa sb sc : Sm} {pos : Pos} {st : Stmt} {sts : List Stmt} {K : PySem.W.Frag} {w w' : Wd} {env env' : En} {S S' : Sto} {σ σ' : L2.St} {H H' : Hp} {D : Ends}
/-- a new object becomes a cell -/
theorem Sim.box (s : Sim K C w env S σ H) {p : Addr} {v : PV} (fr : Fr1 w p) (nm : NotMine env σ p) (o : ObjR K C w H p v) : Sim K C { w with ρ := w.ρ ++ [p] } env (S ++ [v]) σ H ∧ w.le { w with ρ := w.ρ ++ [p] } := by
  have le : w.le { w with ρ := w.ρ ++ [p] } := ⟨Le.refl _, rfl, rfl, [p], rfl⟩
  refine ⟨⟨s.f, s.b, s.fb, s.lb, s.le, fun i x e => ?_, s.od, by simp [s.ln], ?_, fun n c a e1 e2 => ?_⟩, le⟩
  · have z := s.sl i x e
    cases x with
    | un => trivial
    | v y => obtain ⟨u, h1, h2⟩ := z; exact ⟨u, h1, RepW.up le h2⟩
    | own y =>
      obtain ⟨a, h1, h2, h3⟩ := z
      refine ⟨a, h1, ⟨h2.f, h2.b, fun hm => ?_⟩, h3.up le fun _ e => e⟩
      rcases List.mem_append.mp hm with h | h
      · exact h2.r h
      · rw [List.mem_singleton] at h
        exact nm i _ e rfl (by rw [← h]; exact h1)
    | lk y =>
      obtain ⟨a, h0, h1, h2⟩ := z
      exact ⟨a, h0, h1, h2.up le fun _ e => e⟩
  · show (w.ρ ++ [p]).Nodup
    rw [List.nodup_append]
    refine ⟨s.nd, by simp, fun a ha b hb => ?_⟩
    rw [List.mem_singleton] at hb
    subst hb
    rintro rfl
    exact fr.r ha
  · by_cases hn : n < S.length
    · rw [List.getElem?_append_left hn] at e1
      have e2 : (w.ρ ++ [p])[n]? = some a := e2
      rw [List.getElem?_append_left (by rw [s.ln]; exact hn)] at e2
      obtain ⟨h1, h2, h3⟩ := s.cl n c a e1 e2
      exact ⟨h1, h2, h3.up le fun _ e => e⟩
    · have e2 : (w.ρ ++ [p])[n]? = some a := e2
      rw [List.getElem?_append_right (by omega)] at e1
      rw [List.getElem?_append_right (by rw [s.ln]; omega)] at e2
      have hz : n - S.length = 0 := by
        have := (List.getElem?_eq_some_iff.mp e1).1
        simp at this
        omega
      rw [hz] at e1
      rw [s.ln, hz] at e2
      cases e1
      cases e2
      exact ⟨fr.f, fr.b, o.up le fun _ e => e⟩
theorem h_box {d : Ex} (h : PE X e (rN X.K C E d)) : PE X e (rE X.K C E (eBox d)) := by
  refine h.imp ?_
  rintro σ H Q ⟨w, env, S, s, h⟩
  unfold eBox at h
  refine ⟨w, env, S, s, h.bind.mono fun v S1 w1 H1 le s1 h1 p fr nm o => ?_⟩
  obtain ⟨s2, le2⟩ := s1.box fr nm o
  refine h1 _ H1 le2 s2 _ (.ptr ?_)
  show (w1.ρ ++ [p])[S1.length]? = some p
  rw [← s1.ln, List.getElem?_append_right (Nat.le_refl _)]
  simp
/-- a cell changes -/
theorem Sim.cell (s : Sim K C w env S σ H) {n : Nat} {u u' : PV} {q : Addr} {o : HO} (h1 : S[n]? = some u) (h2 : w.ρ[n]? = some q) (r : ObjR K C w (upd H q o) q u') : Sim K C w env (S.set n u') σ (upd H q o) := by
  obtain ⟨f, b, _⟩ := s.cl n u q h1 h2
  refine ⟨fun x y e => ?_, fun x y e => ?_, s.fb, s.lb, s.le, fun i x e => ?_, s.od, by simp [s.ln], s.nd, fun m c x e1 e2 => ?_⟩
  · rw [upd_ne (fun h => by rw [h, f] at e; cases e)]; exact s.f _ _ e
  · rw [upd_ne (fun h => by rw [h, b] at e; cases e)]; exact s.b _ _ e
  · have z := s.sl i x e
    cases x with
    | own y =>
      obtain ⟨x, z1, z2, z3⟩ := z
      exact ⟨x, z1, z2, z3.off (fun h => z2.r (by rw [h]; exact List.mem_of_getElem? h2)) o⟩
    | _ => exact z
  · by_cases hm : m = n
    · subst hm
      rw [h2] at e2
      cases e2
      have hlt := (List.getElem?_eq_some_iff.mp h1).1
      rw [List.getElem?_set_self hlt] at e1
      cases e1
      exact ⟨f, b, r⟩
    · rw [List.getElem?_set_ne (Ne.symm hm)] at e1
      obtain ⟨z1, z2, z3⟩ := s.cl m c x e1 e2
      refine ⟨z1, z2, z3.off (fun h => ?_) o⟩
      subst h
      obtain ⟨l1, g1⟩ := List.getElem?_eq_some_iff.mp e2
      obtain ⟨l2, g2⟩ := List.getElem?_eq_some_iff.mp h2
      exact hm ((List.getElem_inj s.nd).mp (g1.trans g2.symm))
/-- a slot's own object changes -/
theorem Sim.ownU (s : Sim K C w env S σ H) {i : Nat} {u u' : PV} {q : Addr} {o : HO} (h1 : env[i]? = some (.own u)) (h2 : σ[i]? = some (some (.ref q))) (r : ObjR K C w (upd H q o) q u') : Sim K C w (env.set i (.own u')) S σ (upd H q o) := by
  obtain ⟨q', z1, fr, _⟩ := s.sl i _ h1
  rw [h2] at z1; cases z1
  have hlt := (List.getElem?_eq_some_iff.mp h1).1
  refine ⟨fun x y e => ?_, fun x y e => ?_, s.fb, s.lb, by simpa using s.le, fun j x e => ?_, fun j k x y x' e1 e2 m1 m2 q1 q2 => ?_, s.ln, s.nd, fun m c x e1 e2 => ?_⟩
  · rw [upd_ne (fun h => by rw [h, fr.f] at e; cases e)]; exact s.f _ _ e
  · rw [upd_ne (fun h => by rw [h, fr.b] at e; cases e)]; exact s.b _ _ e
  · by_cases hj : j = i
    · subst hj
      rw [List.getElem?_set_self hlt] at e
      cases e
      exact ⟨q, h2, fr, r⟩
    · rw [List.getElem?_set_ne (Ne.symm hj)] at e
      have z := s.sl j x e
      cases x with
      | own y =>
        obtain ⟨x, z1, z2, z3⟩ := z
        exact ⟨x, z1, z2, z3.off (fun h => hj (s.od j i _ _ q e h1 rfl rfl (by rw [← h]; exact z1) h2)) o⟩
      | _ => exact z
  · have back : ∀ (j : Nat) (x : SV), (env.set i (.own u'))[j]? = some x → x.mine = true → ∃ x', env[j]? = some x' ∧ x'.mine = true := fun j x e m => by
      by_cases hj : j = i
      · subst hj; exact ⟨_, h1, rfl⟩
      · rw [List.getElem?_set_ne (Ne.symm hj)] at e; exact ⟨x, e, m⟩
    obtain ⟨x1, a1, b1⟩ := back j x e1 m1
    obtain ⟨x2, a2, b2⟩ := back k y e2 m2
    exact s.od j k _ _ _ a1 a2 b1 b2 q1 q2
  · obtain ⟨z1, z2, z3⟩ := s.cl m c x e1 e2
    exact ⟨z1, z2, z3.off (fun h => fr.r (by rw [← h]; exact List.mem_of_getElem? e2)) o⟩
theorem appP_ok {q : Addr} {u u' v : PV} {x : V} (h : appP u v = some u') (o : ObjR K C w H q u) (r : Rep K C w.F w.ρ x v) : ∃ vs, H q = some (.lst vs) ∧ vs.length < sizeLine ∧ ObjR K C w (upd H q (.lst (vs ++ [x]))) q u' := by
  cases u with
  | lst xs =>
    unfold appP at h
    dsimp only at h
    split at h
    · cases h
      obtain ⟨vs, e, rl⟩ := o
      rename_i hl
      exact ⟨vs, e, by rw [rl.length]; exact Nat.lt_of_le_of_lt hl (by decide), _, upd_same, rl.append (.cons r .nil)⟩
    · cases h
  | _ => cases h
theorem setP_ok {q : Addr} {u u' k v : PV} {x y : V} (h : setP u k v = some u') (o : ObjR K C w H q u) (rk : Rep K C w.F w.ρ y k) (r : Rep K C w.F w.ρ x v) : ∃ vs i j, H q = some (.lst vs) ∧ y = .int i ∧ ixN vs.length i = some j ∧ ObjR K C w (upd H q (.lst (vs.set j x))) q u' := by
  cases u with
  | lst xs =>
    cases k with
    | int i =>
      obtain ⟨j, h1, rfl⟩ := Option.map_eq_some_iff.mp (show (ixN xs.length i).map (fun j => PV.lst (xs.set j v)) = some u' from h)
      obtain ⟨vs, e, rl⟩ := o
      cases rk
      exact ⟨vs, i, j, e, rfl, by rw [rl.length]; exact h1, _, upd_same, RepL.set r j rl⟩
    | _ => cases h
  | _ => cases h

theorem own_at (s : Sim K C w env S σ H) {i : Nat} {u : PV} (h : env[i]? = some (.own u)) : ∃ q, σ[i]? = some (some (.ref q)) ∧ Fr1 w q ∧ ObjR K C w H q u := by
  obtain ⟨q, a, b, c⟩ := s.sl i _ h
  exact ⟨q, a, b, c⟩
theorem own_same (s : Sim K C w env S σ H) {i : Nat} {u : PV} {q : Addr} (h : env[i]? = some (.own u)) (h2 : σ[i]? = some (some (.ref q))) : ObjR K C w H q u := by
  obtain ⟨q', a, b, c⟩ := s.sl i _ h
  rw [h2] at a; cases a; exact c
/-- x.append(e), x a slot of our own -/
theorem h_app {i : Nat} {x : Str} {p1 apos cpos : Pos} (hN : X.N[i]? = some x) (hv : Vis X.env.scope x) (ha : PE X e (rE X.K C E da)) (hd : (x == ("__debug__" : Str)) = false := by decide) (hcd : (x == ("__classdict__" : Str)) = false := by decide)
    (hline : (apos.endLine == cpos.line) = true := by rfl) (hbase : attributeBase (.Name x p1) "append" X.env (eval (.Name x p1) X.env) = eval (.Name x p1) X.env := by rfl)
    (hs : starEach [e] X.env = [(false, eval e X.env)] := by rfl)
    (hfew : ((backTo cpos (starEach [e] X.env)).all (fun x => !x.1) && (backToKw cpos (keywordEach [] X.env)).all (fun x => x.1.isSome)
      && decide ([e].length + ([] : List Keyword).length + (if ([] : List Keyword).isEmpty then 0 else 1) < 30)) = true := by rfl)
    (hsw : swapsWith (.Call (.Attribute (.Name x p1) "append" apos) [e] [] cpos) none pos.line X.env = pure false := by rfl) :
    PS X (.Expr (.Call (.Attribute (.Name x p1) "append" apos) [e] [] cpos) pos) (rS X.K C E (sApp i da)) := by
  refine (ps_expr (pe_bm PySem.F.plainAttrs_list PySem.F.slot_list_append PySem.F.type_list_append mt_append (pe_var (i := i) hN hv hd hcd) (pa_cons ha pa_nil hs) hbase hfew hline hs) hsw).imp ?_
  rintro D σ H ⟨w, env, S, s, h⟩
  unfold sApp at h
  split at h
  · rename_i xs e1
    obtain ⟨q, z1, fr, o⟩ := own_at s e1
    obtain ⟨vs, z2, _⟩ := o
    refine ⟨.ref q, z1, .inl ⟨rfl, vs, SqL.of z2⟩, w, env, S, s, ?_⟩
    cases hd : da env S with
    | ex c S1 => rw [hd] at h; exact fun w1 H1 le s1 => h w1 H1 σ le s1
    | bad => rw [hd] at h; exact h.elim
    | ok v S1 =>
      rw [hd] at h
      intro w1 H1 le s1 y ry
      cases ha : appP (.lst xs) v with
      | none => simp only [ha] at h; exact h.elim
      | some u' =>
        simp only [ha] at h
        obtain ⟨vs, g1, g2, g3⟩ := appP_ok ha (own_same s1 e1 z1) ry
        exact ⟨q, vs, y, rfl, rfl, g1, g2, h w1 _ σ le (s1.ownU e1 z1 g3)⟩
  · exact h.elim
/-- o.append(e), o a cell -/
theorem h_appC {o : Expr} {do_ : Ex} {apos cpos : Pos} (ho : PE X o (rE X.K C E do_)) (ha : PE X e (rE X.K C E da))
    (hbase : attributeBase o "append" X.env (eval o X.env) = eval o X.env := by rfl) (hline : (apos.endLine == cpos.line) = true := by rfl)
    (hs : starEach [e] X.env = [(false, eval e X.env)] := by rfl)
    (hfew : ((backTo cpos (starEach [e] X.env)).all (fun x => !x.1) && (backToKw cpos (keywordEach [] X.env)).all (fun x => x.1.isSome)
      && decide ([e].length + ([] : List Keyword).length + (if ([] : List Keyword).isEmpty then 0 else 1) < 30)) = true := by rfl)
    (hsw : swapsWith (.Call (.Attribute o "append" apos) [e] [] cpos) none pos.line X.env = pure false := by rfl) :
    PS X (.Expr (.Call (.Attribute o "append" apos) [e] [] cpos) pos) (rS X.K C E (sAppC do_ da)) := by
  refine (ps_expr (pe_bm PySem.F.plainAttrs_list PySem.F.slot_list_append PySem.F.type_list_append mt_append ho (pa_cons ha pa_nil hs) hbase hfew hline hs) hsw).imp ?_
  rintro D σ H ⟨w, env, S, s, h⟩
  unfold sAppC at h
  refine ⟨w, env, S, s, ?_⟩
  cases hd : do_ env S with
  | ex c S1 => rw [hd] at h; exact fun w1 H1 le s1 => h w1 H1 σ le s1
  | bad => rw [hd] at h; exact h.elim
  | ok v S1 =>
    rw [hd] at h
    cases v with
    | ptr n =>
      dsimp only at h
      split at h
      · rename_i xs e1
        intro w1 H1 le s1 y ry
        cases ry with
        | ptr ra =>
          rename_i q
          obtain ⟨_, _, vs, z2, _⟩ := s1.cl n _ q e1 ra
          refine ⟨.inl ⟨rfl, vs, SqL.of z2⟩, w1, env, S1, s1, ?_⟩
          cases hd : da env S1 with
          | ex c S1 => rw [hd] at h; exact fun w2 H2 le2 s2 => h w2 H2 σ (le.trans le2) s2
          | bad => rw [hd] at h; exact h.elim
          | ok v S2 =>
            rw [hd] at h
            intro w2 H2 le2 s2 y ry
            dsimp only at h
            split at h
            · rename_i u e2
              cases ha : appP u v with
              | none => simp only [ha] at h; exact h.elim
              | some u' =>
                simp only [ha] at h
                have ra2 := le2.get ra
                obtain ⟨_, _, ob⟩ := s2.cl n _ q e2 ra2
                obtain ⟨vs, g1, g2, g3⟩ := appP_ok ha ob ry
                exact ⟨q, vs, y, rfl, rfl, g1, g2, h w2 _ σ (le.trans le2) (s2.cell e2 ra2 g3)⟩
            · exact h.elim
      · exact h.elim
    | _ => exact h.elim
/-- x[k] = e, x our own -/
theorem h_setI {i : Nat} {x : Str} {p1 p2 : Pos} {k : Expr} {dk : Ex} (hN : X.N[i]? = some x) (hv : Vis X.env.scope x) (he : PE X e (rE X.K C E da)) (hk : PE X k (rE X.K C E dk)) (hd : (x == ("__debug__" : Str)) = false := by decide) (hcd : (x == ("__classdict__" : Str)) = false := by decide)
    (hs : swapsWithSole [.Subscript (.Name x p1) k p2] e pos.line X.env = pure false := by rfl) (hw : swappedStores [.Subscript (.Name x p1) k p2] e X.env = pure none := by rfl)
    (h1 : (assignEach [.Subscript (.Name x p1) k p2] X.env).map (·.2) = [assign (.Subscript (.Name x p1) k p2) X.env] := by rfl)
    (hg : ∀ v, assign (.Subscript (.Name x p1) k p2) X.env v = (do
      let ov ← holding [v] (eval (.Name x p1) X.env)
      let iv ← holding [v, ov] (eval k X.env)
      standAt p2
      holding [v, ov, iv] (setItem ov iv v)
      release [v, ov, iv] []) := by intro _; rfl) : PS X (.Assign [.Subscript (.Name x p1) k p2] e pos) (rS X.K C E (sSetI i dk da)) := by
  refine (ps_asg he (pg_sub (pe_var (i := i) hN hv hd hcd) hk set_list hg) hs hw h1).imp ?_
  rintro D σ H ⟨w, env, S, s, h⟩
  unfold sSetI at h
  refine ⟨w, env, S, s, ?_⟩
  cases hd : da env S with
  | ex c S1 => rw [hd] at h; exact fun w1 H1 le s1 => h w1 H1 σ le s1
  | bad => rw [hd] at h; exact h.elim
  | ok v S1 =>
    rw [hd] at h
    intro w1 H1 le s1 y ry
    dsimp only at h
    split at h
    · rename_i u e1
      obtain ⟨q, z1, _, _⟩ := own_at s1 e1
      refine ⟨.ref q, z1, w1, env, S1, s1, ?_⟩
      cases hd : dk env S1 with
      | ex c S2 => rw [hd] at h; exact fun w2 H2 le2 s2 => h w2 H2 σ (le.trans le2) s2
      | bad => rw [hd] at h; exact h.elim
      | ok kv S2 =>
        rw [hd] at h
        intro w2 H2 le2 s2 z rz
        cases ha : setP u kv v with
        | none => simp only [ha] at h; exact h.elim
        | some u' =>
          simp only [ha] at h
          obtain ⟨vs, a, j, g1, rfl, g2, g3⟩ := setP_ok ha (own_same s2 e1 z1) rz (RepW.up le2 ry)
          exact ⟨q, vs, a, j, rfl, rfl, g1, g2, h w2 _ σ (le.trans le2) (s2.ownU e1 z1 g3)⟩
    · exact h.elim
/-- o[k] = e, o a cell -/
theorem h_setC {o k : Expr} {do_ dk : Ex} {p2 : Pos} (he : PE X e (rE X.K C E da)) (ho : PE X o (rE X.K C E do_)) (hk : PE X k (rE X.K C E dk))
    (hs : swapsWithSole [.Subscript o k p2] e pos.line X.env = pure false := by rfl) (hw : swappedStores [.Subscript o k p2] e X.env = pure none := by rfl)
    (h1 : (assignEach [.Subscript o k p2] X.env).map (·.2) = [assign (.Subscript o k p2) X.env] := by rfl)
    (hg : ∀ v, assign (.Subscript o k p2) X.env v = (do
      let ov ← holding [v] (eval o X.env)
      let iv ← holding [v, ov] (eval k X.env)
      standAt p2
      holding [v, ov, iv] (setItem ov iv v)
      release [v, ov, iv] []) := by intro _; rfl) : PS X (.Assign [.Subscript o k p2] e pos) (rS X.K C E (sSetC do_ dk da)) := by
  refine (ps_asg he (pg_sub ho hk set_list hg) hs hw h1).imp ?_
  rintro D σ H ⟨w, env, S, s, h⟩
  unfold sSetC at h
  refine ⟨w, env, S, s, ?_⟩
  cases hd : da env S with
  | ex c S1 => rw [hd] at h; exact fun w1 H1 le s1 => h w1 H1 σ le s1
  | bad => rw [hd] at h; exact h.elim
  | ok v S1 =>
    rw [hd] at h
    intro w1 H1 le s1 y ry
    refine ⟨w1, env, S1, s1, ?_⟩
    dsimp only at h
    cases ho : do_ env S1 with
    | ex c S2 => rw [ho] at h; exact fun w2 H2 le2 s2 => h w2 H2 σ (le.trans le2) s2
    | bad => rw [ho] at h; exact h.elim
    | ok p S2 =>
      rw [ho] at h
      cases p with
      | ptr n =>
        dsimp only at h
        intro w2 H2 le2 s2 q rq
        cases rq with
        | ptr ra =>
          rename_i q
          refine ⟨w2, env, S2, s2, ?_⟩
          cases hd : dk env S2 with
          | ex c S3 => rw [hd] at h; exact fun w3 H3 le3 s3 => h w3 H3 σ (le.trans (le2.trans le3)) s3
          | bad => rw [hd] at h; exact h.elim
          | ok kv S3 =>
            rw [hd] at h
            intro w3 H3 le3 s3 z rz
            dsimp only at h
            split at h
            · rename_i u e2
              cases ha : setP u kv v with
              | none => simp only [ha] at h; exact h.elim
              | some u' =>
                simp only [ha] at h
                have ra2 := le3.get ra
                obtain ⟨_, _, ob⟩ := s3.cl n _ q e2 ra2
                obtain ⟨vs, a, j, g1, rfl, g2, g3⟩ := setP_ok ha ob rz (RepW.up (le2.trans le3) ry)
                exact ⟨q, vs, a, j, rfl, rfl, g1, g2, h w3 _ σ (le.trans (le2.trans le3)) (s3.cell e2 ra2 g3)⟩
            · exact h.elim
      | _ => exact h.elim
end
end Hw

set_option maxRecDepth 100000
set_option maxHeartbeats 4000000
namespace Hw
open PySem PySem.Spec L2
open PyProof.Rows (envOfC)
section
variable {X : Cx} {C : Kx → Addr} {K : PySem.W.Frag} {F F' H H' : Hp} {ρ : List Addr}
/-! ### isinstance -/
theorem kit_T (T U : Ty) : PySem.W.kitOne K (.type U.nm) (.type T.nm) = some (decide (T = U)) ∨ (U = .bool ∧ T = .int) := by
  cases T <;> cases U <;> first
    | exact .inr ⟨rfl, rfl⟩
    | exact .inl (kit_ty (by decide +kernel))
theorem kit_bl (T : Ty) : PySem.W.kitOne K (.type "bool") (.type T.nm) = some (decide (T = .bool ∨ T = .int)) := by
  cases T <;> exact kit_ty (by decide +kernel)
theorem kit_non (T : Ty) : PySem.W.kitOne K (.type "NoneType") (.type T.nm) = some false := by
  cases T <;> exact kit_ty (by decide +kernel)
theorem kit_int (T : Ty) : PySem.W.kitOne K (.type "int") (.type T.nm) = some (decide (T = .int)) := by
  cases T <;> exact kit_ty (by decide +kernel)
theorem kit_str (T : Ty) : PySem.W.kitOne K (.type "str") (.type T.nm) = some (decide (T = .str)) := by
  cases T <;> exact kit_ty (by decide +kernel)
theorem kit_tup (T : Ty) : PySem.W.kitOne K (.type "tuple") (.type T.nm) = some (decide (T = .tuple)) := by
  cases T <;> exact kit_ty (by decide +kernel)
theorem kit_lst (T : Ty) : PySem.W.kitOne K (.type "list") (.type T.nm) = some (decide (T = .list)) := by
  cases T <;> exact kit_ty (by decide +kernel)
theorem kit_dct (T : Ty) : PySem.W.kitOne K (.type "dict") (.type T.nm) = some (decide (T = .dict)) := by
  cases T <;> exact kit_ty (by decide +kernel)
theorem tyx_tup {a : Addr} {vs : List V} (h : SqT K H a vs) : TyX K H (.ref a) (.type "tuple") := by
  rcases h with (h | ⟨o, h⟩) | ⟨o, its, n, h1, h2, _⟩
  · exact .base (.tup h)
  · exact .fTuple h
  · exact .kTuple h1 h2
theorem tyx_lst {a : Addr} {vs : List V} (h : Rd H a (.lst vs)) : TyX K H (.ref a) (.type "list") := by
  rcases h with h | ⟨o, h⟩
  · exact .base (.lst h)
  · exact .base (.frz h)
/-- isinstance(x, T), T a built-in type; not of frozen dicts with tuples as keys -/
def pIsi (T : Ty) (u : PV) : Option PV := match u with
  | .dI _ => none
  | .dT _ => none
  | u => pIsI T u
theorem s_isi (T : Ty) : Op1 K (pIsi T) fun x H Q => rIsi K [x, .ty T.nm] H Q := by
  intro C F H ρ x u z Q hF hx e h
  have go : ∀ (t : Value) (b : Bool), TyX K H x t → PySem.W.kitOne K t (.type T.nm) = some b → z = .bl b → rIsi K [x, .ty T.nm] H Q := fun t b ty k e => by
    subst e
    exact ⟨x, .ty T.nm, t, .type T.nm, b, rfl, .ty _, ty, k, h F H _ (Grow.refl hF) (.bl _)⟩
  cases u with
  | non => cases e; cases hx.non; exact go _ _ (.base .non) (kit_non T) rfl
  | bl b => cases e; cases hx.bl; exact go _ _ (.base (.bl b)) (kit_bl T) rfl
  | int i => cases e; cases hx.int; exact go _ _ (.base (.int i)) (kit_int T) rfl
  | str s => cases e; cases hx.str; exact go _ _ (.base (.str s)) (kit_str T) rfl
  | tup xs =>
    cases e
    obtain ⟨a, vs, rfl, q, r⟩ := hx.tup
    exact go _ _ (tyx_tup (SqT.le hF q)) (kit_tup T) rfl
  | lst xs =>
    cases e
    obtain ⟨a, vs, rfl, q, r⟩ := hx.lst hF
    exact go _ _ (tyx_lst q) (kit_lst T) rfl
  | _ => cases e
section
variable {E : WX} {pos p p2 : Pos} {a : Expr} {da : Plx}
theorem h_isi (T : Ty) {t : Str} (hg : Gl X "isinstance") (hm : X.mg "isinstance" = none) (hgt : Gl X t) (hmt : X.mg t = none) (hv : bootBuiltins t = some (.type T.nm)) (ha : PE X a (rP X.K C E da)) (hn : t ≠ "__name__" := by decide) (hd : (t == ("__debug__" : Str)) = false := by decide)
    (he : starEach [a, .Name t p2] X.env = [(false, eval a X.env), (false, eval (.Name t p2) X.env)] := by rfl) (he2 : starEach [.Name t p2] X.env = [(false, eval (.Name t p2) X.env)] := by rfl) :
    PE X (.Call (.Name "isinstance" p) [a, .Name t p2] [] pos) (rE X.K C E (eP1 (pIsi T) da)) :=
  (pe_callB call_isi hg hm PyProof.Rows.boot_isinstance (pa_cons ha (pa_cons (pe_bltn (v := .ty T.nm) hgt hmt hv rfl hn hd) pa_nil he2) (by rw [he, he2])) (by decide) (by decide) (by rw [he, he2]) (by rw [he2] <;> rfl)).imp fun σ H Q h => p1_rd (s_isi T) h
end
/-! ### in -/
theorem flat_rep {x : V} {u : PV} (h : Rep K C F ρ x u) (f : flatP u = true) : flatV x = true := by
  cases h <;> first | rfl | cases f
theorem flat_seen {x : V} {u : PV} (h : Seen K C F ρ H x u) (f : flatP u = true) : flatV x = true := by
  rcases h with h | ⟨a, _, h⟩
  · exact flat_rep h f
  · cases u <;> first | exact h.elim | cases f
theorem flat_eq {x y : V} {u v : PV} (hx : Rep K C F ρ x u) (hy : Seen K C F ρ H y v) (fu : flatP u = true) (fv : flatP v = true) : eqV x y = u.eq v := by
  cases v with
  | non => cases hy.non; cases hx <;> first | rfl | cases fu
  | bl b => cases hy.bl; cases hx <;> first | rfl | cases fu
  | int i => cases hy.int; cases hx <;> first | rfl | cases fu
  | str i => cases hy.str; cases hx <;> first | rfl | cases fu
  | _ => cases fv
theorem flat_all {vs : List V} {xs : List PV} : RepL K C F ρ vs xs → xs.all flatP = true → vs.all flatV = true := by
  intro r
  induction xs generalizing vs with
  | nil => intro _; cases r; rfl
  | cons x xs ih =>
    intro f
    cases r with
    | cons a b =>
      rw [List.all_cons, Bool.and_eq_true] at f ⊢
      exact ⟨flat_rep a f.1, ih b f.2⟩
theorem flat_any {y : V} {v : PV} (hy : Seen K C F ρ H y v) (fv : flatP v = true) {vs : List V} {xs : List PV} : RepL K C F ρ vs xs → xs.all flatP = true → (vs.any fun z => eqV z y) = xs.any fun z => z.eq v := by
  intro r
  induction xs generalizing vs with
  | nil => intro _; cases r; rfl
  | cons x xs ih =>
    intro f
    cases r with
    | cons a b =>
      rw [List.all_cons, Bool.and_eq_true] at f
      rw [List.any_cons, List.any_cons, flat_eq a hy f.1 fv, ih b f.2]
def rInX (K : PySem.W.Frag) : R2 := fun x y H Q => rIn K false x y H Q ∨ rInD K x y H Q
def rNotInX (K : PySem.W.Frag) : R2 := fun x y H Q => rIn K true x y H Q ∨ rNotInD K x y H Q
theorem o_in (hu : X.A.units + 65 < cLine) : OpR X (compareOp .In) (rInX X.K) := op_in_seq.or (op_inD hu)
theorem o_notin (hu : X.A.units + 65 < cLine) : OpR X (compareOp .NotIn) (rNotInX X.K) := op_notIn_seq.or (op_notInD hu)
theorem anyD (v : PV) (fv : v.sh 16 = true) : ∀ xs : List PV, PV.shL xs 15 = true → ((PV.datL xs).any fun z => PyData.eqv z v.dat) = xs.any fun z => z.eq v
  | [], _ => rfl
  | x :: xs, h => by
    rw [show PV.shL (x :: xs) 15 = (x.sh 15 && PV.shL xs 15) from rfl, Bool.and_eq_true] at h
    rw [show PV.datL (x :: xs) = x.dat :: PV.datL xs from rfl, List.any_cons, List.any_cons, eq_dat x v 15 16 h.1 fv, anyD v fv xs h.2]
/-- x in y -/
def pInX (x y : PV) : Option PV := match y with
  | .lst ys => if flatP x && ys.all flatP then some (.bl (ys.any fun z => z.eq x)) else if x.sh 16 && PV.shL ys 15 then some (.bl (ys.any fun z => z.eq x)) else none
  | .tup ys => if flatP x && ys.all flatP then some (.bl (ys.any fun z => z.eq x)) else none
  | _ => none
def pNotInX (x y : PV) : Option PV := match pInX x y with
  | some (.bl b) => some (.bl (!b))
  | _ => none
theorem in_cases {x y : V} {u v : PV} {z : PV} (hF : Le F H) (hx : Seen K C F ρ H x u) (hy : Seen K C F ρ H y v) (e : pInX u v = some z) :
    ∃ b, z = .bl b ∧ ((∃ p vs, y = .ref p ∧ (SqL K H p vs ∨ SqT K H p vs) ∧ flatV x = true ∧ vs.all flatV = true ∧ inV x vs = b) ∨
      (∃ d ds, Dp K H x d ∧ Dp K H y (.list ds) ∧ SeqAt.shaped d = true ∧ SeqAt.shaped (.list ds) = true ∧ (ds.any fun z => PyData.eqv z d) = b)) := by
  cases v with
  | lst ys =>
    unfold pInX at e
    dsimp only at e
    split at e
    · rename_i hf
      obtain ⟨f1, f2⟩ := Bool.and_eq_true_iff.mp hf
      cases e
      obtain ⟨a, vs, rfl, q, r⟩ := hy.lst hF
      exact ⟨_, rfl, .inl ⟨a, vs, rfl, .inl (.inl q), flat_seen hx f1, flat_all r f2, flat_any hx f1 r f2⟩⟩
    · split at e
      · rename_i hf
        obtain ⟨f1, f2⟩ := Bool.and_eq_true_iff.mp hf
        cases e
        have sh : (PV.lst ys).sh 16 = true := f2
        exact ⟨_, rfl, .inr ⟨u.dat, PV.datL ys, seen_dp hF hx f1, seen_dp hF hy sh, sh_shaped f1, sh_shaped sh, anyD u f1 ys f2⟩⟩
      · cases e
  | tup ys =>
    unfold pInX at e
    dsimp only at e
    split at e
    · rename_i hf
      obtain ⟨f1, f2⟩ := Bool.and_eq_true_iff.mp hf
      cases e
      obtain ⟨a, vs, rfl, q, r⟩ := hy.tup
      exact ⟨_, rfl, .inl ⟨a, vs, rfl, .inr (SqT.le hF q), flat_seen hx f1, flat_all r f2, flat_any hx f1 r f2⟩⟩
    · cases e
  | _ => cases e
theorem s_in : Op2 K pInX (rInX K) := by
  intro C F H ρ x y u v z Q hF hx hy e h
  obtain ⟨b, rfl, c⟩ := in_cases hF hx hy e
  have hq := h F H _ (Grow.refl hF) (.bl b)
  rcases c with ⟨p, vs, e1, e2, e3, e4, rfl⟩ | ⟨d, ds, e1, e2, e3, e4, rfl⟩
  · exact .inl ⟨p, vs, e1, e2, e3, e4, hq⟩
  · exact .inr ⟨d, ds, e1, e2, e3, e4, hq⟩
theorem s_notin : Op2 K pNotInX (rNotInX K) := by
  intro C F H ρ x y u v z Q hF hx hy e h
  unfold pNotInX at e
  cases e1 : pInX u v with
  | none => rw [e1] at e; cases e
  | some t =>
    rw [e1] at e
    obtain ⟨b, rfl, c⟩ := in_cases hF hx hy e1
    cases e
    have hq := h F H _ (Grow.refl hF) (.bl (!b))
    rcases c with ⟨p, vs, g1, g2, g3, g4, rfl⟩ | ⟨d, ds, g1, g2, g3, g4, rfl⟩
    · exact .inl ⟨p, vs, g1, g2, g3, g4, hq⟩
    · exact .inr ⟨d, ds, g1, g2, g3, g4, hq⟩
/-! ### slices -/
def cutP (xs : List PV) (lo hi : Option Int) : List PV := (xs.drop (HT.sIx xs.length 0 lo)).take (HT.sIx xs.length xs.length hi - HT.sIx xs.length 0 lo)
theorem cut_rep {vs : List V} {xs : List PV} (r : RepL K C F ρ vs xs) (lo hi : Option Int) : RepL K C F ρ (cutV vs lo hi) (cutP xs lo hi) := by
  unfold cutV cutP
  rw [r.length]
  exact RepL.take _ (RepL.drop _ r)
def pCut (u : PV) (lo hi : Option Int) : Option PV := match u with
  | .lst xs => some (.lst (cutP xs lo hi))
  | .tup xs => some (.tup (cutP xs lo hi))
  | _ => none
def pCutO (u : PV) (lo hi : Option PV) : Option PV := match lo, hi with
  | none, none => pCut u none none
  | some (.int i), none => pCut u (some i) none
  | none, some (.int j) => pCut u none (some j)
  | some (.int i), some (.int j) => pCut u (some i) (some j)
  | _, _ => none
def rSlX (K : PySem.W.Frag) : V → Option Int → Option Int → Hp → VK → Prop := fun x lo hi H Q => rSlL K x lo hi H Q ∨ rSlA K x lo hi H Q
theorem o_sl : SlR X (rSlX X.K) := sl_list.or sl_tupA
theorem s_sl {x : V} {u z : PV} {lo hi : Option Int} {Q : VK} (hF : Le F H) (hx : Seen K C F ρ H x u) (e : pCut u lo hi = some z) (h : ∀ F' H' q, Grow F H F' H' → Rep K C F' ρ q z → Q q H') : rSlX K x lo hi H Q := by
  cases u with
  | lst xs =>
    cases e
    obtain ⟨a, vs, rfl, q, r⟩ := hx.lst hF
    exact .inl ⟨a, vs, rfl, .inl q, new_lst hF (cut_rep r lo hi) h⟩
  | tup xs =>
    cases e
    obtain ⟨a, vs, rfl, q, r⟩ := hx.tup
    refine .inr ⟨a, vs, rfl, SqT.le hF q, fun hw => ?_, fun _ => new_tup hF (cut_rep r lo hi) h⟩
    have e : cutV vs lo hi = vs := by
      unfold cutV
      rw [hw.1, hw.2]
      simp
    refine h F H _ (Grow.refl hF) (.tup q ?_)
    have := cut_rep r lo hi
    rw [e] at this
    exact this
  | _ => cases e
def eOpt (d : Option Ex) : En → Sto → R (Option Int) := match d with
  | none => fun _ S => .ok none S
  | some d => fun env S => (d env S).bind fun u S => match u with
    | .int i => .ok (some i) S
    | _ => .bad
def eCut (a : Plx) (lo hi : Option Ex) : Ex := fun env S => (a env S).bind fun p S => (eOpt lo env S).bind fun l S => (eOpt hi env S).bind fun u S => match res p env S with
  | some x => .opt (pCut x l u) S
  | none => .bad
section
variable {E : WX} {pos p p2 : Pos} {a : Expr} {da : Plx} {dl : Option Ex}
def rO (K : PySem.W.Frag) (C : Kx → Addr) (E : WX) (d : Option Ex) : TO := fun σ H Q => ∃ w env S, Sim K C w env S σ H ∧ Wp K C E w env σ (eOpt d env S) fun v _ w' H' => Q v H'
theorem ho_none : PO X none (rO X.K C E none) := ⟨fun pins s σ H Q I ⟨w, env, S, z, h⟩ => po_none.run pins s σ H Q I (h w H (Wd.le.refl _) z)⟩
theorem ho_some {e : Expr} {d : Ex} (h : PE X e (rE X.K C E d)) : PO X (some e) (rO X.K C E (some d)) := ⟨fun pins s σ H Q I ⟨w, env, S, z, q⟩ => (po_some h).run pins s σ H Q I (by
  refine ⟨w, env, S, z, (Wp.bind (f := fun u S => match u with
    | .int i => R.ok (some i) S
    | _ => .bad) (show Wp _ _ _ _ _ _ ((d env S).bind _) _ from q)).mono fun u S1 w1 H1 le s1 h1 x rx => ?_⟩
  cases u with
  | int i => cases rx; exact ⟨i, rfl, h1 w1 H1 (Wd.le.refl _) s1⟩
  | _ => exact h1.elim)⟩
theorem h_cut {lo hi : Option Expr} {dl dh : Option Ex} (ha : PE X a (rP X.K C E da)) (hl : PO X lo (rO X.K C E dl)) (hh : PO X hi (rO X.K C E dh)) : PE X (.Subscript a (.Slice lo hi none p2) pos) (rE X.K C E (eCut da dl dh)) := by
  refine (pe_slice o_sl ha hl hh).imp ?_
  rintro σ H Q ⟨w, env, S, s, h⟩
  unfold eCut at h
  refine ⟨w, env, S, s, h.bind.mono fun p S1 w1 H1 le1 s1 h1 x rx => ⟨w1, env, S1, s1, h1.bind.mono fun l S2 w2 H2 le2 s2 h2 => ⟨w2, env, S2, s2, h2.bind.mono fun u S3 w3 H3 le3 s3 h3 => ?_⟩⟩⟩
  split at h3
  · rename_i y e
    cases e2 : pCut y l u with
    | none => rw [e2] at h3; exact h3.elim
    | some z =>
      rw [e2] at h3
      refine s_sl s3.f (((rx.up le2).up le3).seen s3 e) e2 fun F' H' q g rq => ?_
      obtain ⟨s4, le4⟩ := s3.grow g
      exact h3 _ H' le4 s4 q rq
  · exact h3.elim
end
end
end Hw

set_option maxRecDepth 100000
set_option maxHeartbeats 4000000
namespace Hw
open PySem PySem.Spec L2
open PyProof.Rows (envOfC)
section
variable {X : Cx} {C : Kx → Addr} {E : WX} {a b c e tg : Expr} {da db dc : Ex} {sa sb sc : Sm} {pos p p2 : Pos} {st : Stmt} {sts : List Stmt} {K : PySem.W.Frag} {w w' : Wd} {env env' : En} {S S' : Sto} {σ σ' : L2.St} {H H' : Hp} {D : Ends}
/-! ### list(range(..)) -/
def eLR (d : Ex) : Ex := fun env S => (d env S).bind fun u S => match u with
  | .int j => if decide (0 ≤ j) && decide (j ≤ 10000000) then .ok (.lst (rangeL 0 j.toNat)) S else .bad
  | _ => .bad
theorem rep_range {F : Hp} {ρ : List Addr} (n : Nat) : RepL K C F ρ (rgV 0 n) (rangeL 0 n) := by
  unfold rgV rangeL
  rw [show ((n : Int) - 0).toNat = n by omega]
  generalize List.range n = l
  induction l with
  | nil => exact .nil
  | cons x l ih => exact .cons (.int _) ih
theorem h_lrN (hc : X.calm = true) (hg : Gl X "list") (hm : X.mg "list" = none) (hr : Gl X "range") (hmr : X.mg "range" = none) {pr : Pos} (ha : PE X a (rE X.K C E da)) (na : starEach [a] X.env = (false, eval a X.env) :: starEach [] X.env := by rfl)
    (na2 : starEach [.Call (.Name "range" pr) [a] [] p2] X.env = (false, eval (.Call (.Name "range" pr) [a] [] p2) X.env) :: starEach [] X.env := by rfl) :
    PE X (.Call (.Name "list" p) [.Call (.Name "range" pr) [a] [] p2] [] pos) (rN X.K C E (eLR da)) := by
  refine (pe_listRg hc hg hm (prg_1 hr hmr ha na) na2).imp ?_
  rintro σ H Q ⟨w, env, S, s, h⟩
  unfold eLR at h
  refine ⟨w, env, S, s, h.bind.mono fun u S1 w1 H1 le1 s1 h1 x rx => ?_⟩
  cases u with
  | int j =>
    cases rx
    dsimp only at h1
    split at h1
    · rename_i hj
      obtain ⟨j0, j1⟩ := Bool.and_eq_true_iff.mp hj
      have j0 := of_decide_eq_true j0
      have j1 := of_decide_eq_true j1
      refine ⟨j, rfl, RgOk.of_le (Int.le_refl _) (by omega) (by omega) j0, fun q hq => ?_⟩
      obtain ⟨s2, fr, nm⟩ := s1.loose (o := .lst (rgV 0 j)) hq
      refine h1 _ _ (Wd.le.refl _) s2 q fr nm ⟨_, upd_same, ?_⟩
      have := rep_range (K := X.K) (C := C) (F := w1.F) (ρ := w1.ρ) j.toNat
      rw [show ((j.toNat : Nat) : Int) = j by omega] at this
      exact this
    · exact h1.elim
  | _ => exact h1.elim
/-! ### two names at once -/
def sPar (is : List Nat) (d : Exs) : Sm := fun env S => match d env S with
  | .ok us S => match tgs is us env with
    | some env => .nx env S
    | none => .bad
  | .ex c S => .ex c env S
  | .bad => .bad
theorem h_par {i j : Nat} {x y : Str} {px py pt : Pos} {kt k2 pt2} {ds : Exs} (hc : X.calm = true) (hN : X.N.Nodup) (hi : X.N[i]? = some x) (hj : X.N[j]? = some y) (hij : i ≠ j)
    (hx : X.env.scope.names.lookup x = some .local) (hy : X.env.scope.names.lookup y = some .local) (ha : PA X [a, b] (rA X.K C E ds))
    (hw : swappedStores [.Tuple [.Name x px, .Name y py] kt pt] (.Tuple [a, b] k2 pt2) X.env = pure (some [x, y]) := by rfl)
    (hs : swapsWithSole [.Tuple [.Name x px, .Name y py] kt pt] (.Tuple [a, b] k2 pt2) pos.line X.env = pure false := by rfl) :
    PS X (.Assign [.Tuple [.Name x px, .Name y py] kt pt] (.Tuple [a, b] k2 pt2) pos) (rS X.K C E (sPar [i, j] ds)) := by
  refine (ps_par hc hN hi hj hij hx hy ha hw hs).imp ?_
  rintro D σ H ⟨w, env, S, s, h⟩
  unfold sPar at h
  refine ⟨w, env, S, s, ?_⟩
  cases hd : ds env S with
  | ex c S1 => rw [hd] at h; exact fun w1 H1 le s1 => h w1 H1 σ le s1
  | bad => rw [hd] at h; exact h.elim
  | ok us S1 =>
    rw [hd] at h
    intro w1 H1 le s1 vs rv
    dsimp only at h
    cases ht : tgs [i, j] us env with
    | none => simp only [ht] at h; exact h.elim
    | some env2 =>
      simp only [ht] at h
      cases us with
      | nil => cases ht
      | cons u us =>
        cases us with
        | nil =>
          obtain ⟨e1, _, h2⟩ := Option.bind_eq_some_iff.mp (show (setV i (.v u) env).bind (fun e1 => tgs [j] [] e1) = some env2 from ht)
          cases h2
        | cons t us =>
          obtain ⟨e1, g1, h2⟩ := Option.bind_eq_some_iff.mp (show (setV i (.v u) env).bind (fun e1 => tgs [j] (t :: us) e1) = some env2 from ht)
          obtain ⟨e2, g2, h3⟩ := Option.bind_eq_some_iff.mp (show (setV j (.v t) e1).bind (fun e1 => tgs [] us e1) = some env2 from h2)
          cases us with
          | cons _ _ => cases h3
          | nil =>
            cases h3
            cases rv with
            | cons r1 rv =>
              cases rv with
              | cons r2 rv =>
                cases rv
                exact ⟨_, _, rfl, h w1 H1 _ le ((s1.putV g1 r1).putV g2 r2)⟩
/-! ### x += e -/
def sAug (i : Nat) (f : PV → PV → Option PV) (d : Ex) : Sm := fun env S => match env[i]? with
  | some (.v u) => match d env S with
    | .ok v S => match f u v with
      | some z => match setV i (.v z) env with
        | some env => .nx env S
        | none => .bad
      | none => .bad
    | .ex c S => .ex c env S
    | .bad => .bad
  | _ => .bad
def IpR (X : Cx) (f : PV → PV → Option PV) (r : TIp) : Prop := ∀ (C : Kx → Addr) (F H : Hp) (ρ : List Addr) (x y : V) (u v z : PV) (Q : VK), Le F H → Rep X.K C F ρ x u → Rep X.K C F ρ y v → f u v = some z →
  (∀ F' H' q, Grow F H F' H' → Rep X.K C F' ρ q z → Q q H') → r x y H Q
theorem h_aug {i : Nat} {x : Str} {op : Operator} {ti : TIp} {f : PV → PV → Option PV} {pos' : Pos} (hf0 : IpR X f ti) (ho : PIp X op ti) (hN : X.N.Nodup) (hi : X.N[i]? = some x) (hx : Loc X.env.scope x) (he : PE X e (rE X.K C E da)) (hf : X.fn x = true ∨ X.env.scope.names.lookup x = some .local := by first | exact .inl rfl | exact .inr rfl | assumption) :
    PS X (.AugAssign (.Name x pos') op e pos) (rS X.K C E (sAug i f da)) := by
  refine (ps_aug hN hi hx he ho hf).imp ?_
  rintro D σ H ⟨w, env, S, s, h⟩
  unfold sAug at h
  split at h
  · rename_i u e1
    obtain ⟨o, z1, r1⟩ := s.sl i _ e1
    refine ⟨o, z1, w, env, S, s, ?_⟩
    cases hd : da env S with
    | ex c S1 => rw [hd] at h; exact fun w1 H1 le s1 => h w1 H1 σ le s1
    | bad => rw [hd] at h; exact h.elim
    | ok v S1 =>
      rw [hd] at h
      intro w1 H1 le s1 y ry
      dsimp only at h
      cases hz : f u v with
      | none => simp only [hz] at h; exact h.elim
      | some z =>
        simp only [hz] at h
        refine hf0 C w1.F H1 w1.ρ o y u v z _ s1.f (RepW.up le r1) ry hz fun F' H' q g rq => ?_
        obtain ⟨s2, le2⟩ := s1.grow g
        cases hg : setV i (.v z) env with
        | none => simp only [hg] at h; exact h.elim
        | some env2 =>
          simp only [hg] at h
          exact h _ H' _ (le.trans le2) (s2.putV hg rq)
  · exact h.elim
def pAddI : PV → PV → Option PV
  | .int i, .int j => some (.int (i + j))
  | _, _ => none
def pSubI : PV → PV → Option PV
  | .int i, .int j => some (.int (i - j))
  | _, _ => none
theorem ip_addI : IpR X pAddI (ipI fun i j => i + j) := by
  intro C F H ρ x y u v z Q hF hx hy e h
  cases u with
  | int i =>
    cases v with
    | int j => cases e; cases hx; cases hy; exact ⟨i, j, rfl, rfl, h F H _ (Grow.refl hF) (.int _)⟩
    | _ => cases e
  | _ => cases e
theorem ip_subI : IpR X pSubI (ipI fun i j => i - j) := by
  intro C F H ρ x y u v z Q hF hx hy e h
  cases u with
  | int i =>
    cases v with
    | int j => cases e; cases hx; cases hy; exact ⟨i, j, rfl, rfl, h F H _ (Grow.refl hF) (.int _)⟩
    | _ => cases e
  | _ => cases e
/-! ### constants of the module -/
theorem h_glob {x : Str} {v : V} {u : Value} {z : PV} (hg : Gl X x) (hm : X.mg x = some u) (r : RelV v u) (rz : ∀ F ρ, Rep X.K C F ρ v z) (hd : (x == ("__debug__" : Str)) = false := by decide) : PE X (.Name x pos) (rE X.K C E (eC z)) := by
  refine (pe_glob hg hm r hd).imp ?_
  rintro σ H Q ⟨w, env, S, s, h⟩
  exact h w H (Wd.le.refl w) s v (rz _ _)
/-! ### calls with keywords, with defaults -/
section
variable {k : Nat} {f : Addr} {fd : FuncData} {ps ks : List Str} {x : Str} {es : List Expr} {kws : List Keyword} {ds dk : Exs} {fn : Fn} {g : List Value → List Value → List Value} {n m : Nat} {dvs : List V} {dsv : List Value} {dps : List PV}
/-- f(e, .., k = v, ..): all parameters written, the keywords behind -/
def KBa (K : PySem.W.Frag) (fd : FuncData) (ps : List Str) (n : Nat) (ks : List Str) : Prop := ∀ (s : Shared) (us ws : List Value), K.In s.heap → us.length = n → ws.length = ks.length → BindsTo s fd ⟨us, ks.zip ws⟩ (ps.zip (us ++ ws))
def eCallK (f : Fn) (a b : Exs) : Ex := fun env S => (a env S).bind fun us S => (b env S).bind fun vs S => f (us ++ vs) S
theorem h_callK (F : FnOk X.prog X.w X.K X.mg X.base (L2.CX X.prog X.w) k f fd ps (spF X.K C fn (n + m))) (hr : Room k X.A) (hg : Gl X x) (hm : X.mg x = some (.ref f)) (hk : PySem.W.keepIn X.K (.ref f) = true) (hb : KBa X.K fd ps n ks) (tk : Takes X E)
    (ha : PA X (e :: es) (rA X.K C E ds)) (hkw : PK X kws (rA X.K C E dk)) (hl : ∀ env S us S', ds env S = .ok us S' → us.length = n) (hl2 : ∀ env S us S', dk env S = .ok us S' → us.length = m) (hkl : ks.length = m := by rfl) (hall : (backToKw pos (keywordEach kws X.env)).all (·.1.isSome) = true := by rfl) (hks : (backToKw pos (keywordEach kws X.env)).filterMap (·.1) = ks := by rfl)
    (hdb : (x == ("__debug__" : Str)) = false := by decide) (he : starEach (e :: es) X.env = (false, eval e X.env) :: starEach es X.env := by rfl)
    (hpl : ((backTo pos (starEach (e :: es) X.env)).any (·.1) || (backToKw pos (keywordEach kws X.env)).any (·.1.isNone)) = false := by rfl) :
    PE X (.Call (.Name x p) (e :: es) kws pos) (rE X.K C E (eCallK fn ds dk)) := by
  refine ⟨fun pins s σ H Q I q => ?_⟩
  obtain ⟨w, env, S, sm, h⟩ := q
  unfold eCallK at h
  refine wpAny_Call_Name_kw (ld_glob I hg hm ?_ hdb)
  have q1 : rA X.K C E ds σ H (fun vs H1 => rA X.K C E dk σ H1 (fun zs H2 => vs.length = n ∧ zs.length = m ∧ spF X.K C fn (n + m) (vs ++ zs) H2 Q (WE E σ))) := by
    refine ⟨w, env, S, sm, ?_⟩
    cases hd : ds env S with
    | ex c S1 => rw [hd] at h; exact h
    | bad => rw [hd] at h; exact h
    | ok us S1 =>
      rw [hd] at h
      have h : Wp X.K C E w env σ ((dk env S1).bind fun vs S => fn (us ++ vs) S) _ := h
      intro w1 H1 le1 s1 vs rv
      refine ⟨w1, env, S1, s1, ?_⟩
      have h := h.up le1
      cases hd2 : dk env S1 with
      | ex c S2 => rw [hd2] at h; exact h
      | bad => rw [hd2] at h; exact h
      | ok us2 S2 =>
        rw [hd2] at h
        have h : Wp X.K C E w1 env σ (fn (us ++ us2) S2) _ := h
        intro w2 H2 le2 s2 zs rz
        have l1 := hl _ _ _ _ hd
        have l2 := hl2 _ _ _ _ hd2
        refine ⟨by rw [rv.length]; exact l1, by rw [rz.length]; exact l2, ?_⟩
        exact call_rd s2 ((RepLW.up le2 rv).append rz) (by rw [List.length_append, l1, l2]) (h.up le2) fun v S' w' H' y s' p r => p y r
  refine PySem.W.callWith_KW (h₀ := X.base) I.ok.mod.kin hk hall (thn (ha.run pos pins s σ H _ I q1) fun us s1 ⟨vs, H1, I1, r, q2⟩ => ?_) hpl he
  refine thn (hkw.run pos pins s1 σ H1 _ I1 q2) fun ws s2 ⟨zs, H2, I2, rz, l1, l2, q3⟩ => ⟨I2.kIn, ?_⟩
  rw [hks]
  have b := hb s2 us ws I2.kIn (r.length.symm.trans l1) (rz.length.symm.trans (l2.trans hkl.symm))
  refine wpAny_call (codeAny_mono (F.run X.A X.stack s2 H2 ⟨us, ks.zip ws⟩ (us ++ ws) (vs ++ zs) Q (WE E σ) hr I2.env0 b (r.append rz) q3) fun r s' hq => ?_)
  cases r with
  | error e => exact passAt tk σ pins H2 s2 e s' I2 hq
  | ok fl =>
    cases fl with
    | ret u => exact I2.after hq
    | next => exact False.elim hq
    | brk => exact False.elim hq
    | cont => exact False.elim hq
def eCallD (f : Fn) (dps : List PV) (a : Exs) : Ex := fun env S => (a env S).bind fun us S => f (us ++ dps) S
/-- f(e, ..), the last ones' defaults stand in -/
theorem h_callD (F : FnOk X.prog X.w X.K X.mg X.base (L2.CX X.prog X.w) k f fd ps (spF X.K C fn n)) (hr : Room k X.A) (hg : Gl X x) (hm : X.mg x = some (.ref f)) (hk : PySem.W.keepIn X.K (.ref f) = true) (hb : ∃ dsv, Vals dvs dsv ∧ Binds X.K fd ps dsv) (hdr : ∀ F ρ, RepL X.K C F ρ dvs dps) (tk : Takes X E)
    (ha : PA X (e :: es) (rA X.K C E ds)) (hl : ∀ env S us S', ds env S = .ok us S' → (us ++ dps).length = n) (hdb : (x == ("__debug__" : Str)) = false := by decide) (he : starEach (e :: es) X.env = (false, eval e X.env) :: starEach es X.env := by rfl) (hpl : (backTo pos (starEach es X.env)).any (·.1) = false := by rfl) :
    PE X (.Call (.Name x p) (e :: es) [] pos) (rE X.K C E (eCallD fn dps ds)) := by
  obtain ⟨dsv, hv, hb⟩ := hb
  refine (pe_callSD F hr hg hm hk hb hv (passAt tk) ha hdb he hpl).imp ?_
  rintro σ H Q ⟨w, env, S, s, h⟩
  unfold eCallD at h
  refine ⟨w, env, S, s, ?_⟩
  cases hd : ds env S with
  | ok us S1 =>
    rw [hd] at h
    have h : Wp X.K C E w env σ (fn (us ++ dps) S1) _ := h
    intro w1 H1 le1 s1 vs rv
    exact call_rd s1 (rv.append (hdr _ _)) (hl _ _ _ _ hd) (h.up le1) fun v S' w' H' y s' p r => p y r
  | ex c S1 => rw [hd] at h; exact h
  | bad => rw [hd] at h; exact h
end
/-! ### our own becomes a value -/
theorem Sim.fz (s : Sim K C w env S σ H) {i : Nat} {xs : List PV} (e : env[i]? = some (.own (.lst xs))) : ∃ w', w.le w' ∧ Sim K C w' (env.set i (.v (.lst xs))) S σ H := by
  have hlt := (List.getElem?_eq_some_iff.mp e).1
  obtain ⟨q, z1, fr, o⟩ := own_at s e
  -- first the slot is let go
  have s0 : Sim K C w (env.set i .un) S σ H := by
    refine ⟨s.f, s.b, s.fb, s.lb, by simpa using s.le, fun j x e2 => ?_, fun j k x y a e1 e2 m1 m2 q1 q2 => ?_, s.ln, s.nd, s.cl⟩
    · by_cases hj : j = i
      · subst hj; rw [List.getElem?_set_self hlt] at e2; cases e2; trivial
      · rw [List.getElem?_set_ne (Ne.symm hj)] at e2; exact s.sl j x e2
    · have nj : ∀ (j : Nat) (x : SV), (env.set i .un)[j]? = some x → x.mine = true → env[j]? = some x := fun j x e m => by
        by_cases hj : j = i
        · subst hj; rw [List.getElem?_set_self hlt] at e; cases e; cases m
        · rw [List.getElem?_set_ne (Ne.symm hj)] at e; exact e
      exact s.od j k x y a (nj j x e1 m1) (nj k y e2 m2) m1 m2 q1 q2
  have nm : NotMine (env.set i .un) σ q := fun j x e2 m e3 => by
    by_cases hj : j = i
    · subst hj; rw [List.getElem?_set_self hlt] at e2; cases e2; cases m
    · rw [List.getElem?_set_ne (Ne.symm hj)] at e2
      exact hj (s.od j i x _ q e2 e m rfl e3 z1)
  obtain ⟨w1, le, s1, r⟩ := fz_l s0 fr nm o
  refine ⟨w1, le, ⟨s1.f, s1.b, s1.fb, s1.lb, by simpa using s1.le, fun j x e2 => ?_, fun j k x y a e1 e2 m1 m2 q1 q2 => ?_, s1.ln, s1.nd, s1.cl⟩⟩
  · by_cases hj : j = i
    · subst hj
      rw [List.getElem?_set_self hlt] at e2
      cases e2
      exact ⟨_, z1, r⟩
    · rw [List.getElem?_set_ne (Ne.symm hj)] at e2
      exact s1.sl j x (by rw [List.getElem?_set_ne (Ne.symm hj)]; exact e2)
  · have nj : ∀ (j : Nat) (x : SV), (env.set i (.v (.lst xs)))[j]? = some x → x.mine = true → (env.set i .un)[j]? = some x := fun j x e m => by
      by_cases hj : j = i
      · subst hj; rw [List.getElem?_set_self hlt] at e; cases e; cases m
      · rw [List.getElem?_set_ne (Ne.symm hj)] at e ⊢; exact e
    exact s1.od j k x y a (nj j x e1 m1) (nj k y e2 m2) m1 m2 q1 q2
/-- from here on slot i is a plain value -/
theorem h_fzS (i : Nat) (h : PSs X sts (rS X.K C E sa)) : PSs X sts (rS X.K C E (sSeq (sFz i) sa)) := by
  refine h.imp ?_
  rintro D σ H ⟨w, env, S, s, h⟩
  unfold sSeq sFz at h
  cases q : env[i]? with
  | none => rw [q] at h; exact (show False from h).elim
  | some y =>
    rw [q] at h
    cases y with
    | un => exact (show False from h).elim
    | lk y => exact (show False from h).elim
    | v y => exact ⟨w, _, S, s, h⟩
    | own y =>
      cases y with
      | lst xs =>
        obtain ⟨w1, le, s1⟩ := s.fz q
        exact ⟨w1, _, S, s1, SpR.up (show SpR X.K C E D w (sa (env.set i (.v (.lst xs))) S) from h) le⟩
      | _ => exact (show False from h).elim
/-! ### x = l.pop(k) -/
theorem popP_ok {q : Addr} {u u' k y : PV} {z : V} (h : popP u k = some (u', y)) (o : ObjR K C w H q u) (rk : Rep K C w.F w.ρ z k) : ∃ vs i j v, H q = some (.lst vs) ∧ z = .int i ∧ -(2 ^ 63) ≤ i ∧ i < 2 ^ 63 ∧ seqIndex? i vs.length = some j ∧ vs[j]? = some v ∧ Rep K C w.F w.ρ v y ∧ ObjR K C w (upd H q (.lst (vs.eraseIdx j))) q u' := by
  cases u with
  | lst xs =>
    cases k with
    | int i =>
      unfold popP at h
      dsimp only at h
      split at h
      · rename_i hi
        obtain ⟨i0, i1⟩ := Bool.and_eq_true_iff.mp hi
        obtain ⟨j, h1, h2⟩ := Option.bind_eq_some_iff.mp h
        obtain ⟨y', h3, h4⟩ := Option.map_eq_some_iff.mp h2
        cases h4
        obtain ⟨vs, e, rl⟩ := o
        cases rk
        obtain ⟨v, g1, g2⟩ := rl.get h3
        exact ⟨vs, i, j, v, e, rfl, of_decide_eq_true i0, of_decide_eq_true i1, by rw [rl.length]; exact h1, g1, g2, _, upd_same, rl.eraseIdx j⟩
      · cases h
    | _ => cases h
  | _ => cases h
/-- the pop as an expression whose end stores: slots t (what comes), i (whose list it is) -/
theorem pop_rd {t i : Nat} {dk : Ex} {x : Str} (s : Sim K C w env S σ H) (h : SpR K C E D w (sPop t i dk env S)) : tBM K "list" rPopAt (fun σ H Q => ∃ v, σ[i]? = some (some v) ∧ Q v H) (tCons (rE K C E dk) tNil) σ H fun x H1 => D.nx (σ.set t (some x)) H1 := by
  unfold sPop at h
  split at h
  · rename_i xs e1
    obtain ⟨q, z1, fr, o⟩ := own_at s e1
    obtain ⟨vs, z2, _⟩ := o
    refine ⟨.ref q, z1, .inl ⟨rfl, vs, SqL.of z2⟩, w, env, S, s, ?_⟩
    cases hd : dk env S with
    | ex c S1 => rw [hd] at h; exact fun w1 H1 le s1 => h w1 H1 σ le s1
    | bad => rw [hd] at h; exact h.elim
    | ok v S1 =>
      rw [hd] at h
      intro w1 H1 le s1 y ry
      cases ha : popP (.lst xs) v with
      | none => simp only [ha] at h; exact h.elim
      | some uy =>
        obtain ⟨u', y'⟩ := uy
        simp only [ha] at h
        cases hg : setV t (.v y') (env.set i (.own u')) with
        | none => simp only [hg] at h; exact h.elim
        | some env2 =>
          simp only [hg] at h
          split at h
          · exact h.elim
          · obtain ⟨vs, a, j, v2, g1, rfl, g2, g3, g4, g5, g6, g7⟩ := popP_ok ha (own_same s1 e1 z1) ry
            refine ⟨q, vs, a, j, v2, rfl, rfl, g1, g2, g3, g4, g5, ?_⟩
            have s2 := s1.ownU e1 z1 g7
            exact h w1 _ _ le (s2.putV hg g6)
  · exact h.elim
theorem h_pop {t i : Nat} {x l : Str} {dk : Ex} {k : Expr} {p1 pt apos cpos : Pos} (hN : X.N.Nodup) (hi : X.N[t]? = some x) (hx : Loc X.env.scope x) (hl : X.N[i]? = some l) (hv : Vis X.env.scope l) (hk : PE X k (rE X.K C E dk))
    (hd : (l == ("__debug__" : Str)) = false := by decide) (hcd : (l == ("__classdict__" : Str)) = false := by decide)
    (hline : (apos.endLine == cpos.line) = true := by rfl) (hbase : attributeBase (.Name l p1) "pop" X.env (eval (.Name l p1) X.env) = eval (.Name l p1) X.env := by rfl)
    (hs : starEach [k] X.env = [(false, eval k X.env)] := by rfl)
    (hfew : ((backTo cpos (starEach [k] X.env)).all (fun x => !x.1) && (backToKw cpos (keywordEach [] X.env)).all (fun x => x.1.isSome)
      && decide ([k].length + ([] : List Keyword).length + (if ([] : List Keyword).isEmpty then 0 else 1) < 30)) = true := by rfl)
    (hsw : swapsWith (.Call (.Attribute (.Name l p1) "pop" apos) [k] [] cpos) (some (.Name x pt)) pos.line X.env = pure false := by rfl) (hf : X.fn x = true ∨ X.env.scope.names.lookup x = some .local := by first | exact .inl rfl | exact .inr rfl | assumption) :
    PS X (.Assign [.Name x pt] (.Call (.Attribute (.Name l p1) "pop" apos) [k] [] cpos) pos) (rS X.K C E (sPop t i dk)) :=
  (ps_set hN hi hx (pe_bm PySem.F.plainAttrs_list PySem.F.slot_list_pop PySem.F.type_list_pop mt_popAt (pe_var (i := i) hl hv hd hcd) (pa_cons hk pa_nil hs) hbase hfew hline hs) hsw hf).imp fun D σ H ⟨w, env, S, s, h⟩ => pop_rd (x := x) s h
/-- x = l.pop(k) if c else b -/
def sPopIf (t i : Nat) (c k b : Ex) : Sm := sIf c (sPop t i k) (sPut (tgN t) b)
theorem h_popIf {t i : Nat} {x l : Str} {dk : Ex} {k : Expr} {p1 pt apos cpos : Pos} (hN : X.N.Nodup) (hi : X.N[t]? = some x) (hx : Loc X.env.scope x) (hl : X.N[i]? = some l) (hv : Vis X.env.scope l) (hc : PT X c (rT X.K C E dc)) (hk : PE X k (rE X.K C E dk)) (hb : PE X b (rE X.K C E db))
    (hd : (l == ("__debug__" : Str)) = false := by decide) (hcd : (l == ("__classdict__" : Str)) = false := by decide)
    (hline : (apos.endLine == cpos.line) = true := by rfl) (hbase : attributeBase (.Name l p1) "pop" X.env (eval (.Name l p1) X.env) = eval (.Name l p1) X.env := by rfl)
    (hs : starEach [k] X.env = [(false, eval k X.env)] := by rfl)
    (hfew : ((backTo cpos (starEach [k] X.env)).all (fun x => !x.1) && (backToKw cpos (keywordEach [] X.env)).all (fun x => x.1.isSome)
      && decide ([k].length + ([] : List Keyword).length + (if ([] : List Keyword).isEmpty then 0 else 1) < 30)) = true := by rfl)
    (hsw : swapsWith (.IfExp c (.Call (.Attribute (.Name l p1) "pop" apos) [k] [] cpos) b p2) (some (.Name x pt)) pos.line X.env = pure false := by rfl) (hf : X.fn x = true ∨ X.env.scope.names.lookup x = some .local := by first | exact .inl rfl | exact .inr rfl | assumption) :
    PS X (.Assign [.Name x pt] (.IfExp c (.Call (.Attribute (.Name l p1) "pop" apos) [k] [] cpos) b p2) pos) (rS X.K C E (sPopIf t i dc dk db)) := by
  refine (ps_set hN hi hx (pe_ifExp hc (pe_bm PySem.F.plainAttrs_list PySem.F.slot_list_pop PySem.F.type_list_pop mt_popAt (pe_var (i := i) hl hv hd hcd) (pa_cons hk pa_nil hs) hbase hfew hline hs) hb) hsw hf).imp ?_
  rintro D σ H ⟨w, env, S, s, h⟩
  unfold sPopIf sIf at h
  refine ⟨w, env, S, s, ?_⟩
  cases hd : dc env S with
  | ex c S1 => rw [hd] at h; exact fun w1 H1 le s1 => h w1 H1 σ le s1
  | bad => rw [hd] at h; exact h.elim
  | ok v S1 =>
    rw [hd] at h
    intro w1 H1 le s1
    cases v with
    | bl q =>
      refine ⟨q, rfl, ?_⟩
      cases q with
      | true => exact iteT (pop_rd (x := x) s1 (SpR.up h le))
      | false =>
        refine iteF ?_
        have z := put_rd (is := [t]) s1 (SpR.up h le)
        obtain ⟨w, env, S, s, z⟩ := z
        refine ⟨w, env, S, s, z.mono fun v S' w' H' _ _ p x r => ?_⟩
        obtain ⟨w2, env2, S2, v2, env3, s2, r2, hg, q⟩ := p x r
        exact q _ (s2.putV hg r2) Chg.set
    | _ => exact h.elim
end
end Hw

set_option maxRecDepth 100000
set_option maxHeartbeats 4000000
namespace Hw
open PySem PySem.Spec L2
open PyProof.Rows (envOfC)
/-! ### constants that the top has written -/
mutual
def konst (K : PySem.W.Frag) : PV → Value → Bool
  | .non, .none => true
  | .bl b, .bool c => b == c
  | .int i, .int j _ => decide (i = j)
  | .str x, .str y _ => decide (x = y)
  | .tup xs, .ref a => (match K.lookup a with
    | some ⟨.type c, _, .seq its _, _⟩ => decide (c = "tuple") && (decide (its.size ≤ sizeLine) && konstL K xs its.toList)
    | _ => false)
  | _, _ => false
termination_by structural x => x
def konstL (K : PySem.W.Frag) : List PV → List Value → Bool
  | [], [] => true
  | x :: xs, v :: vs => konst K x v && konstL K xs vs
  | _, _ => false
termination_by structural x => x
end
mutual
/-- the value of the layer that stands for it -/
def konV : PV → Value → V
  | .bl b, _ => .bl b
  | .int i, _ => .int i
  | .str x, _ => .str x
  | .tup _, .ref a => .ref a
  | _, _ => .non
end
def konVL : List PV → List Value → List V
  | x :: xs, v :: vs => konV x v :: konVL xs vs
  | _, _ => []
mutual
theorem konst_ok {K : PySem.W.Frag} : ∀ {x : PV} {v : Value}, konst K x v = true → RelV (konV x v) v ∧ ∀ (C : Kx → Addr) (F : Hp) (ρ : List Addr), Rep K C F ρ (konV x v) x
  | .non, v, h => by
    cases v with
    | none => exact ⟨rfl, fun _ _ _ => .non⟩
    | _ => cases h
  | .bl b, v, h => by
    cases v with
    | bool c =>
      have e : b = c := eq_of_beq (show (b == c) = true from h)
      subst e
      exact ⟨rfl, fun _ _ _ => .bl _⟩
    | _ => cases h
  | .int i, v, h => by
    cases v with
    | int j t =>
      have e : i = j := of_decide_eq_true h
      subst e
      exact ⟨⟨t, rfl⟩, fun _ _ _ => .int _⟩
    | _ => cases h
  | .str i, v, h => by
    cases v with
    | str j t =>
      have e : i = j := of_decide_eq_true h
      subst e
      exact ⟨⟨t, rfl⟩, fun _ _ _ => .str _⟩
    | _ => cases h
  | .tup xs, v, h => by
    cases v with
    | ref a =>
      have h1 : (match K.lookup a with
        | some ⟨.type c, _, .seq its _, _⟩ => decide (c = "tuple") && (decide (its.size ≤ sizeLine) && konstL K xs its.toList)
        | _ => false) = true := h
      cases q : K.lookup a with
      | none => rw [q] at h1; cases h1
      | some o =>
        obtain ⟨oc, od, dt, osl⟩ := o
        rw [q] at h1
        cases oc with
        | type c =>
          cases dt with
          | seq its n =>
            obtain ⟨h2, h3⟩ := He.ba (show (decide (c = "tuple") && (decide (its.size ≤ sizeLine) && konstL K xs its.toList)) = true from h1)
            obtain ⟨h4, h5⟩ := He.ba h3
            obtain ⟨r1, r2⟩ := konstL_ok h5
            exact ⟨rfl, fun C F ρ => .tup (.inr ⟨_, its, n, q, congrArg Value.type (of_decide_eq_true h2), rfl, of_decide_eq_true h4, r1⟩) (r2 C F ρ)⟩
          | _ => cases h1
        | _ => cases dt <;> cases h1
    | _ => cases h
  | .lst _, v, h => by cases v <;> cases h
  | .dI _, v, h => by cases v <;> cases h
  | .dT _, v, h => by cases v <;> cases h
  | .exc _, v, h => by cases v <;> cases h
  | .ptr _, v, h => by cases v <;> cases h
  | .kls _, v, h => by cases v <;> cases h
termination_by structural x => x
theorem konstL_ok {K : PySem.W.Frag} : ∀ {xs : List PV} {vs : List Value}, konstL K xs vs = true → Vals (konVL xs vs) vs ∧ ∀ (C : Kx → Addr) (F : Hp) (ρ : List Addr), RepL K C F ρ (konVL xs vs) xs
  | [], [], _ => ⟨.nil, fun _ _ _ => .nil⟩
  | [], _ :: _, h => by cases h
  | _ :: _, [], h => by cases h
  | x :: xs, v :: vs, h => by
    obtain ⟨h1, h2⟩ := He.ba (show (konst K x v && konstL K xs vs) = true from h)
    obtain ⟨a, b⟩ := konst_ok h1
    obtain ⟨c, d⟩ := konstL_ok h2
    exact ⟨.cons a c, fun C F ρ => .cons (b C F ρ) (d C F ρ)⟩
termination_by structural x => x
end
/-- the module's name x stands for the plain value z -/
def conB (K : PySem.W.Frag) (x : Str) (z : PV) : Bool := match PySem.W.nsIn K mainGlobals x with
  | some (some u) => konst K z u
  | _ => false
theorem conB_ok {K : PySem.W.Frag} {h : Heap} {mg : Str → Option Value} (X : K.In h) (G : h.Ns mainGlobals mg) {x : Str} {z : PV} (c : conB K x z = true) : ∃ (u : Value) (v : V), mg x = some u ∧ RelV v u ∧ ∀ (C : Kx → Addr) (F : Hp) (ρ : List Addr), Rep K C F ρ v z := by
  unfold conB at c
  cases q : PySem.W.nsIn K mainGlobals x with
  | none => rw [q] at c; cases c
  | some o =>
    rw [q] at c
    cases o with
    | none => cases c
    | some u =>
      obtain ⟨a, b⟩ := konst_ok c
      exact ⟨u, _, PySem.W.mg_of X G q, a, b⟩
/-- the value of the keyword-only default x of the def named f -/
def kwAt (f x : Str) (K : PySem.W.Frag) : Value := match K.lookup (He.ga K f) with
  | some ⟨_, _, .func fd, _⟩ => (match fd.kwdefaults with
    | .ref D => (match PySem.W.nsIn K D x with
      | some (some u) => u
      | _ => .none)
    | _ => .none)
  | _ => .none
def kwA (f x : Str) (K : PySem.W.Frag) : Addr := match kwAt f x K with
  | .ref a => a
  | _ => 0
theorem kwA_ok {K : PySem.W.Frag} {f x : Str} {xs : List PV} (h : konst K (.tup xs) (kwAt f x K) = true) (C : Kx → Addr) (F : Hp) (ρ : List Addr) : Rep K C F ρ (.ref (kwA f x K)) (.tup xs) := by
  have z := (konst_ok h).2 C F ρ
  cases q : kwAt f x K with
  | ref a =>
    have e : kwA f x K = a := by unfold kwA; rw [q]
    rw [q] at z
    rw [e]
    exact z
  | _ => rw [q] at h; cases h
/-! ### the Hook -/
abbrev AlE : Type := He.AlD × Bool
def obsE (n : Nat) (fa : List He.Fa) (fn : List He.DefD) (ex : PySem.W.Frag → Bool) (g : Addr → Option Obj) : AlE := (He.obsD fa fn (He.frG g (He.asD g n)), ex (He.frG g (He.asD g n)))
def valE (fn : List He.DefD) : AlE := (He.valD fn, true)
def hookE (n : Nat) (fa : List He.Fa) (fn : List He.DefD) (ex : PySem.W.Frag → Bool) : PySem.W.Hook where
  α := AlE
  obs := fun s => obsE n fa fn ex s.heap.get?
  val := fun _ => valE fn
  says := fun _ h => ∃ K : PySem.W.Frag, K.In h ∧ He.SaysD fa fn K ∧ ex K = true
  of := fun _ _ e => ⟨_, He.frG_in, congrArg (fun z : AlE => z.1) e, congrArg (fun z : AlE => z.2) e⟩
  keeps := fun _ _ _ ⟨K, hK, c⟩ k => ⟨K, PySem.W.Frag.In.keeps hK k, c⟩
theorem obsE_eq {n : Nat} {fa : List He.Fa} {fn : List He.DefD} {ex : PySem.W.Frag → Bool} {g : Addr → Option Obj} {s : Shared} (h : ∀ a, g a = s.heap.get? a) : obsE n fa fn ex g = (hookE n fa fn ex).obs s := by
  have e : g = s.heap.get? := funext h
  rw [e] <;> rfl
/-- a law's end; what may be let out leans on the world -/
theorem walk_ofW {l : PySem.W.OpenLaw} {n k : Nat} {q : Program} {loose : List Str} {XP : (Str → Option Value) → Heap → Prop} {YP : World → Heap → Prop} {d : DefRec} {CX : World → CXT} {x : Str}
    (hn : l.most = some n) (hn2 : n ≤ sizeLine) (hdf : d.params.defaults = []) (hr : Room k callerA)
    (F : ∀ (w : World) (mg : Str → Option Value) (fa : Addr) (h : Heap), YP w h → h.Ns mainGlobals mg → mg d.name = some (.ref fa) →
      ∃ (K : PySem.W.Frag) (fd : FuncData) (sp : Sp), K.In h ∧ (∀ (s : Shared) (u : Value), BindsTo s fd ⟨[u], []⟩ [(x, u)]) ∧
        (∀ (H : Hp) (a : Addr) (ns : List Int), ns.length ≤ n → Only H → SqL K H a (ns.map V.int) → sp [.ref a] H (fun v _ => v = .bl true) fun _ _ _ => False) ∧
        ∀ base : Heap, K.In base → base.Ns mainGlobals mg → FnOk l.prog w K mg base (CX w) k fa fd [x] sp)
    (hCX : ∀ (w : World) (H : Hp) (s : Shared) (e : Value) (s' : Shared), CX w [] H s (fun _ _ _ => False) e s' → False) :
    PySem.W.WalkO q loose XP YP l.row.toRowW d [] (fun f vs => PySem.call f vs) := by
  refine Att.attach_call hn hdf fun w s₀ s₁ mg mb fa o pm cd doc a vs ns G Y ho hd hcd hmg hobj hints hlen hg => ?_
  obtain ⟨K, fd, sp, KX, hb, hsp, hF⟩ := F w mg fa _ Y G.T.g hmg
  exact law_call KX G.T.g G.T.b G.T.builtins G.T.nolimit hg hobj hints (Nat.le_trans hlen hn2) hr hF hb (fun H hO hS => hsp H a ns hlen hO hS) fun H e s' => hCX w H s₁ e s'
theorem cx_false {P : Program} {w : World} {H : Hp} {s : Shared} {e : Value} {s' : Shared} (h : L2.CX P w [] H s (fun _ _ _ => False) e s') : False := by
  obtain ⟨_, _, _, _, _, _, _, _, _, _, _, _, h⟩ := h
  exact h
end Hw

set_option maxRecDepth 100000
set_option maxHeartbeats 4000000
namespace Hw
open PySem PySem.Spec L2
open PyProof.Rows (envOfC)
abbrev E0 : WX := fun _ _ _ _ => False
section
variable {X : Cx} {C : Kx → Addr} {E : WX} {a b c e tg : Expr} {da db dc : Ex} {sa sb sc : Sm} {pos p p2 : Pos} {st : Stmt} {sts : List Stmt} {K : PySem.W.Frag} {w w' : Wd} {env env' : En} {S S' : Sto} {σ σ' : L2.St} {H H' : Hp} {D : Ends} {F F' : Hp} {ρ : List Addr}
/-! ### what is never come to -/
def eBad : Ex := fun _ _ => .bad
def sBad : Sm := fun _ _ => .bad
theorem h_badE : PE X e (rE X.K C E eBad) := ⟨fun pins s σ H Q I ⟨w, env, S, _, h⟩ => h.elim⟩
theorem h_badS : PS X st (rS X.K C E sBad) := ⟨fun pins s σ H D I ⟨w, env, S, _, h⟩ => h.elim⟩
/-! ### places by themselves -/
def plOf : PV → Pl
  | .ptr n => .cell n
  | v => .val v
/-- the value, or the cell it points to -/
def pA (d : Ex) : Plx := fun env S => (d env S).bind fun v S => .ok (plOf v) S
def pN (i : Nat) : Plx := fun env S => match env[i]? with
  | some (.v x) => .ok (plOf x) S
  | some .un => .bad
  | some _ => .ok (.slot i) S
  | none => .bad
theorem seen_pl {v : PV} {x : V} (r : Rep K C w.F w.ρ x v) : SeenP K C w σ x (plOf v) := by
  cases v with
  | ptr n => cases r with | ptr r => exact ⟨_, r, rfl⟩
  | _ => exact r
theorem p_a {d : Ex} (h : PE X e (rE X.K C E d)) : PE X e (rP X.K C E (pA d)) := by
  refine h.imp ?_
  rintro σ H Q ⟨w, env, S, s, h⟩
  exact ⟨w, env, S, s, h.bind.mono fun u S1 w1 H1 le1 s1 h1 x rx => h1 w1 H1 (Wd.le.refl _) s1 x (seen_pl rx)⟩
theorem p_n (i : Nat) {x : Str} {pos : Pos} (hN : X.N[i]? = some x := by rfl) (hv : Vis X.env.scope x := by first | exact Or.inl rfl | exact Or.inr (Or.inl rfl) | exact Or.inr (Or.inr rfl)) (hd : (x == ("__debug__" : Str)) = false := by decide)
    (hcd : (x == ("__classdict__" : Str)) = false := by decide) : PE X (.Name x pos) (rP X.K C E (pN i)) := by
  refine (pe_var (X := X) (i := i) hN hv hd hcd).imp ?_
  rintro σ H Q ⟨w, env, S, s, h⟩
  unfold pN at h
  cases q : env[i]? with
  | none => rw [q] at h; exact h.elim
  | some y =>
    rw [q] at h
    have z := s.sl i y q
    cases y with
    | un => exact h.elim
    | v t => obtain ⟨o, h1, h2⟩ := z; exact ⟨o, h1, h w H (Wd.le.refl _) s o (seen_pl h2)⟩
    | own t => obtain ⟨o, h1, _, h2⟩ := z; exact ⟨_, h1, h w H (Wd.le.refl _) s _ h1⟩
    | lk t => obtain ⟨o, _, h1, h2⟩ := z; exact ⟨_, h1, h w H (Wd.le.refl _) s _ h1⟩
/-! ### the script -/
def pNeK (u v : PV) : Option PV := match u, v with
  | .kls ns, .lst [] => some (.bl (!ns.isEmpty))
  | u, v => pNe u v
def pListK (u : PV) : Option PV := match u with
  | .kls ns => some (.lst (ns.map .int))
  | u => pList u
theorem dp_ints : ∀ ns : List Int, DpAll K H (ns.map V.int) (ns.map PyData.int)
  | [] => .nil
  | n :: ns => .cons (.int n) (dp_ints ns)
theorem lay_ints : ∀ ns : List Int, PyData.canLayAll0 (ns.map PyData.int) = true ∧ PyData.depthAll (ns.map PyData.int) ≤ 0
  | [] => ⟨rfl, Nat.le_refl _⟩
  | n :: ns => by
    obtain ⟨a, b⟩ := lay_ints ns
    refine ⟨?_, ?_⟩
    · show PyData.canLayAll0 (PyData.int n :: ns.map PyData.int) = true
      rw [PyData.canLayAll0, a] <;> rfl
    · show PyData.depthAll (PyData.int n :: ns.map PyData.int) ≤ 0
      rw [PyData.depthAll]
      exact Nat.max_le.mpr ⟨Nat.le_refl _, b⟩
theorem s_neK : Op2 K pNeK (rNeD K) := by
  intro C F H ρ x y u v z Q hF hx hy e h
  have old : pNe u v = some z → rNeD K x y H Q := fun e => s_ne C F H ρ x y u v z Q hF hx hy e h
  cases u with
  | kls ns =>
    cases v with
    | lst ys =>
      cases ys with
      | nil =>
        cases e
        obtain ⟨a, vs, rfl, q, r⟩ := hy.lst hF
        cases r
        rcases hx with hx | ⟨_, _, hx⟩
        · cases hx with
          | kls q2 =>
            refine ⟨.list (ns.map PyData.int), .list [], .lst (SqL.le hF q2) (dp_ints ns), .lst (.inl q) .nil, ?_, by decide, ?_⟩
            · unfold SeqAt.shaped
              obtain ⟨l1, l2⟩ := lay_ints ns
              have e1 : (PyData.list (ns.map PyData.int)).canLay0 = true := l1
              have e2 : (PyData.list (ns.map PyData.int)).depth ≤ 1 := Nat.succ_le_succ l2
              rw [e1, Bool.true_and, decide_eq_true_eq]
              omega
            · have e3 : (!PyData.eqv (.list (ns.map PyData.int)) (.list [])) = !ns.isEmpty := by
                cases ns <;> rfl
              rw [e3]
              exact h F H _ (Grow.refl hF) (.bl _)
        · exact hx.elim
      | cons y ys => exact old e
    | _ => exact old e
  | _ => exact old e
theorem s_listK : Op1 K pListK fun x H Q => ∃ p ys, [x] = [V.ref p] ∧ (SqL K H p ys ∨ SqT K H p ys) ∧ ∀ l, H l = none → Q (.ref l) (upd H l (.lst ys)) := by
  intro C F H ρ x u z Q hF hx e h
  cases u with
  | kls ns =>
    cases e
    rcases hx with hx | ⟨_, _, hx⟩
    · cases hx with
      | kls q2 => exact ⟨_, _, rfl, .inl (SqL.le hF q2), new_lst hF (RepL.ints ns) h⟩
    · exact hx.elim
  | lst xs => exact s_list C F H ρ x _ z Q hF hx e h
  | tup xs => exact s_list C F H ρ x _ z Q hF hx e h
  | _ => cases e
/-- list(x), to be changed -/
theorem h_listN {x : Str} {da : Plx} (hg : Gl X x) (hm : X.mg x = none) (hv : bootBuiltins x = some (.type "list")) (ha : PE X a (rP X.K C E da)) (hn : x ≠ "__name__" := by decide) (hdb : (x == ("__debug__" : Str)) = false := by decide)
    (he : starEach [a] X.env = [(false, eval a X.env)] := by rfl) : PE X (.Call (.Name x p) [a] [] pos) (rN X.K C E (eP1 pListK da)) := by
  refine (pe_callTy call_list_of hg hm hv (pa_cons ha pa_nil he) hn hdb he).imp ?_
  rintro σ H Q ⟨w, env, S, s, h⟩
  show rP X.K C E da σ H fun y H1 => ∃ p ys, [y] = [V.ref p] ∧ (SqL X.K H1 p ys ∨ SqT X.K H1 p ys) ∧ ∀ l, H1 l = none → Q (.ref l) (upd H1 l (.lst ys))
  unfold eP1 at h
  refine ⟨w, env, S, s, h.bind.mono fun p S1 w1 H1 le1 s1 h1 y ry => ?_⟩
  split at h1
  · rename_i u e
    have go : ∀ (ys : List V) (xs : List PV), RepL X.K C w1.F w1.ρ ys xs → (∀ w' H', w1.le w' → Sim X.K C w' env S1 σ H' → ∀ p, Fr1 w' p → NotMine env σ p → ObjR X.K C w' H' p (.lst xs) → Q (.ref p) H') → ∀ l, H1 l = none → Q (.ref l) (upd H1 l (.lst ys)) := fun ys xs r h l hl => by
      obtain ⟨s2, fr, nm⟩ := s1.loose (o := .lst ys) hl
      exact h _ _ (Wd.le.refl _) s2 l fr nm ⟨_, upd_same, r⟩
    have sn := ry.seen s1 e
    cases u with
    | kls ns =>
      rcases sn with hx | ⟨_, _, hx⟩
      · cases hx with
        | kls q2 => exact ⟨_, _, rfl, .inl (SqL.le s1.f q2), go _ _ (RepL.ints ns) h1⟩
      · exact hx.elim
    | lst xs =>
      obtain ⟨a, vs, rfl, q, r⟩ := sn.lst s1.f
      exact ⟨a, vs, rfl, .inl (.inl q), go _ _ r h1⟩
    | tup xs =>
      obtain ⟨a, vs, rfl, q, r⟩ := sn.tup
      exact ⟨a, vs, rfl, .inr (SqT.le s1.f q), go _ _ r h1⟩
    | _ => exact h1.elim
  · exact h1.elim
theorem h_ifN (hc : PT X c (rT X.K C E dc)) (ha : PE X a (rN X.K C E da)) (hb : PE X b (rN X.K C E db)) : PE X (.IfExp c a b pos) (rN X.K C E (eIf dc da db)) := by
  refine (pe_ifExp hc ha hb).imp ?_
  rintro σ H Q ⟨w, env, S, s, h⟩
  unfold eIf at h
  refine ⟨w, env, S, s, h.bind.mono fun u S1 w1 H1 le1 s1 h1 => ?_⟩
  cases u with
  | bl k =>
    refine ⟨k, rfl, ?_⟩
    cases k with
    | true => rw [if_pos rfl]; exact ⟨w1, env, S1, s1, h1⟩
    | false => rw [if_neg Bool.false_ne_true]; exact ⟨w1, env, S1, s1, h1⟩
  | _ => exact h1.elim
/-- a constant of the module -/
theorem h_con {x : Str} {z : PV} (hg : Gl X x) (hm : ∃ (u : Value) (v : V), X.mg x = some u ∧ RelV v u ∧ ∀ (C : Kx → Addr) (F : Hp) (ρ : List Addr), Rep X.K C F ρ v z) (hd : (x == ("__debug__" : Str)) = false := by decide) : PE X (.Name x pos) (rE X.K C E (eC z)) := by
  obtain ⟨u, v, h1, h2, h3⟩ := hm
  exact h_glob hg h1 h2 (fun F ρ => h3 C F ρ) hd
theorem hw_and1' (ha : PT X a (rT X.K C E da)) : PT X (.BoolOp .And [a] pos) (rT X.K C E da) := (hw_and1 ha).pt
/-- what the arguments' number is -/
def exsLen (n : Nat) (d : Exs) : Prop := ∀ env S us S', d env S = .ok us S' → us.length = n
theorem el_nil : exsLen 0 esNil := fun env S us S' h => by cases h; rfl
theorem el_cons {n : Nat} {d : Ex} {ds : Exs} (h : exsLen n ds) : exsLen (n + 1) (esCons d ds) := fun env S us S' e => by
  unfold esCons at e
  cases h1 : d env S with
  | ex c S1 => rw [h1] at e; cases e
  | bad => rw [h1] at e; cases e
  | ok u S1 =>
    rw [h1] at e
    simp only [R.bind] at e
    cases h2 : ds env S1 with
    | ex c S1 => rw [h2] at e; cases e
    | bad => rw [h2] at e; cases e
    | ok us2 S2 => rw [h2] at e; cases e; simp [h _ _ _ _ h2]
end
end Hw

set_option maxRecDepth 100000
set_option maxHeartbeats 4000000
namespace Hw
open PySem PySem.Spec L2
open PyProof.Rows (envOfC)
/-! ### defs as callees -/
def blkB (N : List Str) (sc scope : Scope) (own : List (Str × Nat)) : Bool :=
  decide (scope.kind = .function) && scope.names.all (fun y => decide (scope.names.lookup y.1 = some y.2)) && own.all (fun p => decide (N[p.2]? = some p.1)) &&
    scope.names.all (fun y => !decide (y.2 = .free) || (decide (sc.names.lookup y.1 = some .cell) || decide (sc.names.lookup y.1 = some .free))) &&
    scope.names.all (fun y => !(decide (y.2 = .local) || decide (y.2 = .cell)) || (decide (y.1 ∈ own.map (·.1)) || !decide (y.1 ∈ N)))
theorem blk_ok {N : List Str} {sc scope : Scope} {own : List (Str × Nat)} (h : blkB N sc scope own = true) : BlkOk N sc scope own := by
  unfold blkB at h
  simp only [Bool.and_eq_true] at h
  obtain ⟨⟨⟨⟨h1, h2⟩, h3⟩, h4⟩, h5⟩ := h
  refine ⟨of_decide_eq_true h1, fun y hy => of_decide_eq_true (List.all_eq_true.mp h2 y hy), fun p hp => of_decide_eq_true (List.all_eq_true.mp h3 p hp), fun y hy e => ?_, fun y hy e => ?_⟩
  · have z := List.all_eq_true.mp h4 y hy
    simp only [Bool.or_eq_true, decide_eq_true_eq, Bool.not_eq_true', decide_eq_false_iff_not] at z
    rcases z with z | z
    · exact absurd e z
    · exact z
  · have z := List.all_eq_true.mp h5 y hy
    simp only [Bool.or_eq_true, decide_eq_true_eq, Bool.not_eq_true', decide_eq_false_iff_not, Bool.or_eq_false_iff] at z
    rcases z with ⟨z1, z2⟩ | z
    · rcases e with e | e
      · exact absurd e z1
      · exact absurd e z2
    · exact z
section
variable {P : Program} {W : World} {K : PySem.W.Frag} {mg : Str → Option Value} {base : Heap} {C : Kx → Addr}
/-- x is a def at level k that does fn, called with n values -/
def Cal (P : Program) (W : World) (K : PySem.W.Frag) (mg : Str → Option Value) (base : Heap) (C : Kx → Addr) (x : Str) (k n : Nat) (fn : Fn) : Prop :=
  ∃ (f : Addr) (fd : FuncData) (ps : List Str), mg x = some (.ref f) ∧ PySem.W.keepIn K (.ref f) = true ∧ FnOk P W K mg base (L2.CX P W) k f fd ps (spF K C fn n) ∧ Binds K fd ps []
/-- .. n values and keywords ks behind -/
def CalK (P : Program) (W : World) (K : PySem.W.Frag) (mg : Str → Option Value) (base : Heap) (C : Kx → Addr) (x : Str) (k n m : Nat) (ks : List Str) (fn : Fn) : Prop :=
  ks.length = m ∧ ∃ (f : Addr) (fd : FuncData) (ps : List Str), mg x = some (.ref f) ∧ PySem.W.keepIn K (.ref f) = true ∧ FnOk P W K mg base (L2.CX P W) k f fd ps (spF K C fn (n + m)) ∧ KBa K fd ps n ks
/-- .. n values, defaults dps behind -/
def CalD (P : Program) (W : World) (K : PySem.W.Frag) (mg : Str → Option Value) (base : Heap) (C : Kx → Addr) (x : Str) (k n : Nat) (dps : List PV) (fn : Fn) : Prop :=
  ∃ (f : Addr) (fd : FuncData) (ps : List Str) (dvs : List V), mg x = some (.ref f) ∧ PySem.W.keepIn K (.ref f) = true ∧ FnOk P W K mg base (L2.CX P W) k f fd ps (spF K C fn (n + dps.length)) ∧ (∃ dsv, Vals dvs dsv ∧ Binds K fd ps dsv) ∧ ∀ F ρ, RepL K C F ρ dvs dps
/-- THE RULE for a def -/
theorem fn_okD {x qual : Str} {params : Arguments} {body : List Stmt} {scope : Scope} {dvs : List V} {kws : List (Str × V)} {f : Addr} {fd : FuncData} {N ps : List Str} {k : Nat} {d : Sm} (F : FunD K x qual params body scope dvs kws f fd) (S : FnScope N ps scope)
    (hbody : ∀ (cdv : Value) (A : Around) (outer : List PySem.Env) (s : Shared) (H : Hp) (EX : XK), Room k (A.deeper (envOfC qual scope s.heap.objs.size f cdv)) →
      PSs (cxOf (L2.CX P W) P W K mg base N qual scope f cdv A outer s H EX) body (rS K C (XE1 EX) d)) :
    FnOk P W K mg base (L2.CX P W) (k + 1) f fd ps (spF K C (runFn N.length d) ps.length) :=
  F.ok S spF_len fun cdv A outer s H vs Q EX hr hsp => ⟨_, hbody cdv A outer s H EX hr, body_rd (FnScope.le S) hsp⟩
theorem FunD.kba {x qual : Str} {params : Arguments} {body : List Stmt} {scope : Scope} {kws : List (Str × V)} {f : Addr} {fd : FuncData} {ps ks : List Str} {n : Nat} (F : FunD K x qual params body scope [] kws f fd)
    (h : ∀ (kV doc pm : Value) (an : Option Addr) (cdv ct : Value) (us ws : List Value), us.length = n → ws.length = ks.length → bindArgs (PySem.W.fnOf x qual params body scope .none kV doc pm an cdv ct) ⟨us, ks.zip ws⟩ = pure (ps.zip (us ++ ws))) : KBa K fd ps n ks := by
  obtain ⟨oc, od, dV, kV, doc, pm, an, cdv, ct, osl, rfl, lk, hcd, hD, hK⟩ := F.ex
  rcases hD with ⟨_, rfl⟩ | ⟨e, _⟩
  · exact fun s us ws _ h1 h2 => .of_eq (h kV doc pm an cdv ct us ws h1 h2)
  · exact absurd rfl e
end
section
variable {X : Cx} {C : Kx → Addr} {E : WX} {pos p : Pos} {x : Str} {k n m : Nat} {fn : Fn} {e : Expr} {es : List Expr} {ds dk : Exs} {ks : List Str} {kws : List Keyword} {dps : List PV}
theorem hc_call (H : Cal X.prog X.w X.K X.mg X.base C x k n fn) (hr : Room k X.A) (tk : Takes X E) (hg : Gl X x) (ha : PA X (e :: es) (rA X.K C E ds)) (hl : exsLen n ds) (hdb : (x == ("__debug__" : Str)) = false := by decide) (he : starEach (e :: es) X.env = (false, eval e X.env) :: starEach es X.env := by rfl) (hpl : (backTo pos (starEach es X.env)).any (·.1) = false := by rfl) :
    PE X (.Call (.Name x p) (e :: es) [] pos) (rE X.K C E (eCall fn ds)) := by
  obtain ⟨f, fd, ps, hm, hk, F, hb⟩ := H
  exact h_call F hr hg hm hk hb tk ha hl hdb he hpl
theorem hc_callK (H : CalK X.prog X.w X.K X.mg X.base C x k n m ks fn) (hr : Room k X.A) (tk : Takes X E) (hg : Gl X x) (ha : PA X (e :: es) (rA X.K C E ds)) (hkw : PK X kws (rA X.K C E dk)) (hl : exsLen n ds) (hl2 : exsLen m dk) (hall : (backToKw pos (keywordEach kws X.env)).all (·.1.isSome) = true := by rfl) (hks : (backToKw pos (keywordEach kws X.env)).filterMap (·.1) = ks := by rfl)
    (hdb : (x == ("__debug__" : Str)) = false := by decide) (he : starEach (e :: es) X.env = (false, eval e X.env) :: starEach es X.env := by rfl)
    (hpl : ((backTo pos (starEach (e :: es) X.env)).any (·.1) || (backToKw pos (keywordEach kws X.env)).any (·.1.isNone)) = false := by rfl) :
    PE X (.Call (.Name x p) (e :: es) kws pos) (rE X.K C E (eCallK fn ds dk)) := by
  obtain ⟨hkl, f, fd, ps, hm, hk, F, hb⟩ := H
  exact h_callK F hr hg hm hk hb tk ha hkw hl hl2 hkl hall hks hdb he hpl
theorem hc_callD (H : CalD X.prog X.w X.K X.mg X.base C x k n dps fn) (hr : Room k X.A) (tk : Takes X E) (hg : Gl X x) (ha : PA X (e :: es) (rA X.K C E ds)) (hl : exsLen n ds) (hdb : (x == ("__debug__" : Str)) = false := by decide) (he : starEach (e :: es) X.env = (false, eval e X.env) :: starEach es X.env := by rfl) (hpl : (backTo pos (starEach es X.env)).any (·.1) = false := by rfl) :
    PE X (.Call (.Name x p) (e :: es) [] pos) (rE X.K C E (eCallD fn dps ds)) := by
  obtain ⟨f, fd, ps, dvs, hm, hk, F, hb, hr2⟩ := H
  exact h_callD F hr hg hm hk hb hr2 tk ha (fun env S us S' h => by rw [List.length_append, hl env S us S' h]) hdb he hpl
/-- the block's test list -/
theorem ht_none : PTs X [] (rT X.K C E eYes) := by
  refine ⟨fun pins s σ H Q I q => ?_⟩
  obtain ⟨w, env, S, z, h⟩ := q
  obtain ⟨b, e, h⟩ := h w H (Wd.le.refl _) z
  cases e
  exact pts_nil.run pins s σ H Q I h
theorem ht_one {c : Expr} {d : Ex} (h : PT X c (rT X.K C E d)) : PTs X [c] (rT X.K C E d) := pts_one h
theorem hu64 {k : Nat} {A : Around} (r : Room k A) : A.units + 64 < cLine := by have := r.un; omega
theorem hu65 {k : Nat} {A : Around} (r : Room k A) : A.units + 65 < cLine := by have := r.un; omega
theorem bb_len : bootBuiltins "len" = some (.builtin "len") := by decide +kernel
theorem bb_all : bootBuiltins "all" = some (.builtin "all") := by decide +kernel
theorem bb_any : bootBuiltins "any" = some (.builtin "any") := by decide +kernel
theorem bb_abs : bootBuiltins "abs" = some (.builtin "abs") := by decide +kernel
theorem bb_max : bootBuiltins "max" = some (.builtin "max") := by decide +kernel
theorem bb_min : bootBuiltins "min" = some (.builtin "min") := by decide +kernel
theorem bb_sum : bootBuiltins "sum" = some (.builtin "sum") := by decide +kernel
theorem bb_sorted : bootBuiltins "sorted" = some (.builtin "sorted") := by decide +kernel
theorem bb_tuple : bootBuiltins "tuple" = some (.type "tuple") := by decide +kernel
theorem bb_list : bootBuiltins "list" = some (.type "list") := by decide +kernel
theorem bb_int : bootBuiltins "int" = some (.type "int") := by decide +kernel
theorem bb_bool : bootBuiltins "bool" = some (.type "bool") := by decide +kernel
theorem bb_dict : bootBuiltins "dict" = some (.type "dict") := by decide +kernel
theorem bb_str : bootBuiltins "str" = some (.type "str") := by decide +kernel
end
/-- the law's own promise, at the door -/
theorem law_sp {K : PySem.W.Frag} {C : Kx → Addr} {f : Fn} {n : Nat} (main : ∀ ns : List Int, ns.length ≤ n → ∃ S', f [.kls ns] [] = R.ok (.bl true) S') (H : Hp) (a : Addr) (ns : List Int) (hl : ns.length ≤ n) (hO : Only H) (hS : SqL K H a (ns.map V.int)) :
    spF K C f 1 [.ref a] H (fun v _ => v = .bl true) fun _ _ _ => False := by
  refine ⟨⟨H, fun _ => none, [], fun _ => none⟩, [], [.kls ns], ⟨Le.refl _, fun _ _ e => (by cases e), fun _ _ e => (by cases e), fun _ _ e => (by cases e), Nat.le_refl _, fun _ _ e => (by simp at e), fun _ _ _ _ _ e => (by simp at e), rfl, List.nodup_nil, fun _ _ _ e => (by simp at e)⟩, .cons (.kls hS) .nil, rfl, ?_⟩
  obtain ⟨S', e⟩ := main ns hl
  rw [e]
  exact fun w' H' x _ _ r => rep_bl r
end Hw

set_option maxRecDepth 100000
set_option maxHeartbeats 4000000
namespace G01
open PySem PySem.Spec L2 Hw
/-! ### the text by places -/
def top (i : Nat) : Stmt := PySem.Challenge.pw_hushways_k01_whole_hearing.main.body.getD i (.Pass ⟨0, 0, 0, 0⟩)
abbrev t_is_whole : Stmt := top 5
abbrev t_is_stand : Stmt := top 13
abbrev t_is_folk : Stmt := top 14
abbrev t_is_crowd : Stmt := top 15
abbrev t_look_crowd : Stmt := top 16
abbrev t_look_one : Stmt := top 17
abbrev t_look_beat : Stmt := top 18
abbrev t_is_late : Stmt := top 19
abbrev t_look_lates : Stmt := top 20
abbrev t_stood : Stmt := top 21
abbrev t_stand : Stmt := top 22
abbrev t_heard : Stmt := top 23
abbrev t_ears : Stmt := top 24
abbrev t_hearers : Stmt := top 25
abbrev t_may_tell : Stmt := top 26
abbrev t_is_let : Stmt := top 27
abbrev t_common : Stmt := top 28
abbrev t_round_of : Stmt := top 29
abbrev t_joint_round : Stmt := top 30
abbrev t_law_town : Stmt := top 32
abbrev t_law_draw : Stmt := top 33
abbrev t_law_pick : Stmt := top 34
abbrev t_law_is : Stmt := top 35
abbrev t_law_meetings : Stmt := top 36
abbrev t_law_crowd : Stmt := top 37
abbrev t_law_stand : Stmt := top 38
abbrev t_law_hears : Stmt := top 39
abbrev t_law_ears : Stmt := top 40
abbrev t_law_let : Stmt := top 41
abbrev t_law_size : Stmt := top 42
abbrev t_law_some : Stmt := top 43
abbrev t_law : Stmt := top 44
/-! ### what the top has written -/
structure Txt (K : PySem.W.Frag) (mg : Str → Option Value) : Prop where
  b_abs : mg ("abs" : Str) = none
  b_all : mg ("all" : Str) = none
  b_any : mg ("any" : Str) = none
  b_bool : mg ("bool" : Str) = none
  b_int : mg ("int" : Str) = none
  b_isinstance : mg ("isinstance" : Str) = none
  b_len : mg ("len" : Str) = none
  b_list : mg ("list" : Str) = none
  b_max : mg ("max" : Str) = none
  b_min : mg ("min" : Str) = none
  b_range : mg ("range" : Str) = none
  b_tuple : mg ("tuple" : Str) = none
  c_MOST_BEAT : ∃ (u : Value) (v : V), mg ("MOST_BEAT" : Str) = some u ∧ RelV v u ∧ ∀ (C : Kx → Addr) (F : Hp) (ρ : List Addr), Rep K C F ρ v (.int 1000000000000)
  c_MOST_FOLK : ∃ (u : Value) (v : V), mg ("MOST_FOLK" : Str) = some u ∧ RelV v u ∧ ∀ (C : Kx → Addr) (F : Hp) (ρ : List Addr), Rep K C F ρ v (.int 8)
  c_MOST_LATE : ∃ (u : Value) (v : V), mg ("MOST_LATE" : Str) = some u ∧ RelV v u ∧ ∀ (C : Kx → Addr) (F : Hp) (ρ : List Addr), Rep K C F ρ v (.int 4)
  c_MOST_PLACE : ∃ (u : Value) (v : V), mg ("MOST_PLACE" : Str) = some u ∧ RelV v u ∧ ∀ (C : Kx → Addr) (F : Hp) (ρ : List Addr), Rep K C F ρ v (.int 9)
  c_MOST_STANDS : ∃ (u : Value) (v : V), mg ("MOST_STANDS" : Str) = some u ∧ RelV v u ∧ ∀ (C : Kx → Addr) (F : Hp) (ρ : List Addr), Rep K C F ρ v (.int 6)
  c_WAYS : ∃ (u : Value) (v : V), mg ("WAYS" : Str) = some u ∧ RelV v u ∧ ∀ (C : Kx → Addr) (F : Hp) (ρ : List Addr), Rep K C F ρ v (.tup [(.tup [(.int 1), (.int 0)]), (.tup [(.int 0), (.int 1)]), (.tup [(.int (-1)), (.int 0)]), (.tup [(.int 0), (.int (-1))])])
abbrev FnP (K : PySem.W.Frag) (x : Str) (st : Stmt) (dvs : List V) (kws : List (Str × V)) (f : Addr) (fd : FuncData) : Prop := FunD K x x (defArgs st) (defBody st) (defScope st) dvs kws f fd
/-! ### what each def does -/
def d_is_whole : Sm := sSeq (sRet (eAnd (eP1 (pIsi .int) (pN 0)) (eAnd (eNot (eP1 (pIsi .bool) (pN 0))) (eChain pLe pLe (eVar 1) (eVar 0) (eVar 2))))) (sNil)
def f_is_whole : Fn := runFn 3 d_is_whole
def d_is_stand : Sm := sSeq (sIf (eOr (eNot (eP1 (pIsi .tuple) (pN 0))) (eOr (eP2 pNeK (pA (eP1 pLen (pN 0))) (pA (eC (.int 3)))) (eNot (eCall f_is_whole (esCons (eP2 pIdx (pN 0) (pA (eC (.int 2)))) (esCons (eC (.int 0)) (esCons (eC (.int 3)) (esNil)))))))) (sSeq (sRet (eC (.bl false))) (sNil)) (sNil)) (sSeq (sRet (eP1 pAll (pA (eLC (iP (pA (eCut (pN 0) none (some (eC (.int 2)))))) [1] (tgN 1) (eYes) (eCall f_is_whole (esCons (eVar 1) (esCons (eOp1 pNeg (eC (.int 9))) (esCons (eC (.int 9)) (esNil))))))))) (sNil))
def f_is_stand : Fn := runFn 2 d_is_stand
def d_is_folk : Sm := sSeq (sIf (eOr (eNot (eP1 (pIsi .tuple) (pN 0))) (eNot (eP1 pAll (pA (eLC (iP (pN 0)) [3] (tgN 3) (eYes) (eCall f_is_whole (esCons (eVar 3) (esCons (eC (.int 0)) (esCons (eP2 pSub (pN 1) (pA (eC (.int 1)))) (esNil)))))))))) (sSeq (sRet (eC (.bl false))) (sNil)) (sNil)) (sSeq (sRet (eP1 pAll (pA (eLC (iR1 (eP2 pSub (pA (eP1 pLen (pN 0))) (pA (eC (.int 1))))) [2] (tgN 2) (eYes) (eP2 pLt (pA (eP2 pIdx (pN 0) (pN 2))) (pA (eP2 pIdx (pN 0) (pA (eP2 pAdd (pN 2) (pA (eC (.int 1)))))))))))) (sNil))
def f_is_folk : Fn := runFn 4 d_is_folk
def d_is_crowd : Sm := sSeq (sIf (eOr (eNot (eP1 (pIsi .tuple) (pN 0))) (eOr (eP2 pNeK (pA (eP1 pLen (pN 0))) (pA (eC (.int 3)))) (eNot (eCall f_is_whole (esCons (eP2 pIdx (pN 0) (pA (eC (.int 0)))) (esCons (eC (.int 0)) (esCons (eP2 pMul (pA (eC (.int 2))) (pA (eC (.int 9)))) (esNil)))))))) (sSeq (sRet (eC (.bl false))) (sNil)) (sNil)) (sSeq (sPut (tgT [2, 3, 4]) (eVar 0)) (sSeq (sIf (eOr (eNot (eP1 (pIsi .tuple) (pN 3))) (eNot (eChain pLe pLe (eC (.int 2)) (eP1 pLen (pN 3)) (eC (.int 8))))) (sSeq (sRet (eC (.bl false))) (sNil)) (sNil)) (sSeq (sFor (iP (pN 3)) (tgN 1) (sSeq (sIf (eOr (eNot (eP1 (pIsi .tuple) (pN 1))) (eOr (eNot (eChain pLe pLe (eC (.int 1)) (eP1 pLen (pN 1)) (eC (.int 6)))) (eNot (eP1 pAll (pA (eLC (iP (pN 1)) [5] (tgN 5) (eYes) (eCall f_is_stand (esCons (eVar 5) (esNil))))))))) (sSeq (sRet (eC (.bl false))) (sNil)) (sNil)) (sNil))) (sSeq (sRet (eCall f_is_folk (esCons (eVar 4) (esCons (eP1 pLen (pN 3)) (esNil))))) (sNil)))))
def f_is_crowd : Fn := runFn 6 d_is_crowd
def d_look_crowd : Sm := sSeq (sIf (eNot (eCall f_is_crowd (esCons (eVar 0) (esNil)))) (sSeq (sBad) (sNil)) (sNil)) (sNil)
def f_look_crowd : Fn := runFn 1 d_look_crowd
def d_look_one : Sm := sSeq (sIf (eNot (eCall f_is_whole (esCons (eVar 1) (esCons (eC (.int 0)) (esCons (eP2 pSub (pA (eP1 pLen (pA (eP2 pIdx (pN 0) (pA (eC (.int 1))))))) (pA (eC (.int 1)))) (esNil)))))) (sSeq (sBad) (sNil)) (sNil)) (sNil)
def f_look_one : Fn := runFn 2 d_look_one
def d_look_beat : Sm := sSeq (sIf (eNot (eCall f_is_whole (esCons (eVar 0) (esCons (eC (.int 0)) (esCons (eC (.int 1000000000000)) (esNil)))))) (sSeq (sBad) (sNil)) (sNil)) (sNil)
def f_look_beat : Fn := runFn 1 d_look_beat
def d_is_late : Sm := sSeq (sIf (eOr (eNot (eP1 (pIsi .tuple) (pN 1))) (eOr (eP2 pNeK (pA (eP1 pLen (pN 1))) (pA (eC (.int 3)))) (eNot (eCall f_is_whole (esCons (eP2 pIdx (pN 1) (pA (eC (.int 0)))) (esCons (eC (.int 0)) (esCons (eP2 pSub (pA (eP1 pLen (pA (eP2 pIdx (pN 0) (pA (eC (.int 1))))))) (pA (eC (.int 1)))) (esNil)))))))) (sSeq (sRet (eC (.bl false))) (sNil)) (sNil)) (sSeq (sRet (eAnd (eCall f_is_whole (esCons (eP2 pIdx (pN 1) (pA (eC (.int 1)))) (esCons (eC (.int 0)) (esCons (eC (.int 1000000000000)) (esNil))))) (eCall f_is_whole (esCons (eP2 pIdx (pN 1) (pA (eC (.int 2)))) (esCons (eC (.int 1)) (esCons (eC (.int 6)) (esNil))))))) (sNil))
def f_is_late : Fn := runFn 2 d_is_late
def d_look_lates : Sm := sSeq (sPut (tgN 2) (eAnd (eP1 (pIsi .tuple) (pN 1)) (eAnd (eP2 pLe (pA (eP1 pLen (pN 1))) (pA (eC (.int 4)))) (eP1 pAll (pA (eLC (iP (pN 1)) [3] (tgN 3) (eYes) (eCall f_is_late (esCons (eVar 0) (esCons (eVar 3) (esNil)))))))))) (sSeq (sIf (eOr (eNot (eVar 2)) (eP1 pAny (pA (eLC (iR1 (eP2 pSub (pA (eP1 pLen (pN 1))) (pA (eC (.int 1))))) [4] (tgN 4) (eYes) (eP2 pGe (pA (eP2 pIdx (pA (eP2 pIdx (pN 1) (pN 4))) (pA (eC (.int 0))))) (pA (eP2 pIdx (pA (eP2 pIdx (pN 1) (pA (eP2 pAdd (pN 4) (pA (eC (.int 1))))))) (pA (eC (.int 0)))))))))) (sSeq (sBad) (sNil)) (sNil)) (sNil))
def f_look_lates : Fn := runFn 5 d_look_lates
def d_stood : Sm := sSeq (sPut (tgN 4) (eP2 pIdx (pA (eP2 pIdx (pN 0) (pA (eC (.int 1))))) (pN 1))) (sSeq (sFor (iP (pN 3)) (tgT [5, 6, 7]) (sSeq (sIf (eAnd (eP2 pEq (pN 5) (pN 1)) (eP2 pGe (pN 2) (pN 6))) (sSeq (sRet (eP2 pIdx (pN 4) (pA (eP2 pMod (pA (eP2 pSub (pN 2) (pN 7))) (pA (eP1 pLen (pN 4))))))) (sNil)) (sNil)) (sNil))) (sSeq (sRet (eP2 pIdx (pN 4) (pA (eP2 pMod (pN 2) (pA (eP1 pLen (pN 4))))))) (sNil)))
def f_stood : Fn := runFn 8 d_stood
def d_stand : Sm := sSeq (sEx (eCall f_look_crowd (esCons (eVar 0) (esNil)))) (sSeq (sEx (eCall f_look_one (esCons (eVar 0) (esCons (eVar 1) (esNil))))) (sSeq (sEx (eCall f_look_beat (esCons (eVar 2) (esNil)))) (sSeq (sEx (eCall f_look_lates (esCons (eVar 0) (esCons (eVar 3) (esNil))))) (sSeq (sRet (eCall f_stood (esCons (eVar 0) (esCons (eVar 1) (esCons (eVar 2) (esCons (eVar 3) (esNil))))))) (sNil)))))
def f_stand : Fn := runFn 4 d_stand
def d_heard : Sm := sSeq (sPut (tgT [6, 7, 8]) (eCall f_stood (esCons (eVar 0) (esCons (eVar 1) (esCons (eVar 3) (esCons (eVar 4) (esNil))))))) (sSeq (sPut (tgN 5) (eCall f_stood (esCons (eVar 0) (esCons (eVar 2) (esCons (eVar 3) (esCons (eVar 4) (esNil))))))) (sSeq (sPar [9, 10] (esCons (eP2 pSub (pA (eP2 pIdx (pN 5) (pA (eC (.int 0))))) (pN 6)) (esCons (eP2 pSub (pA (eP2 pIdx (pN 5) (pA (eC (.int 1))))) (pN 7)) (esNil)))) (sSeq (sIf (eOr (eP2 pEq (pN 1) (pN 2)) (eP2 pGt (pA (eP2 pAdd (pA (eP1 pAbs (pN 9))) (pA (eP1 pAbs (pN 10))))) (pA (eP2 pIdx (pN 0) (pA (eC (.int 0))))))) (sSeq (sRet (eC (.bl false))) (sNil)) (sNil)) (sSeq (sRet (eP2 pGe (pA (eP2 pAdd (pA (eP2 pMul (pA (eP2 pIdx (pA (eP2 pIdx (pA (eC (.tup [(.tup [(.int 1), (.int 0)]), (.tup [(.int 0), (.int 1)]), (.tup [(.int (-1)), (.int 0)]), (.tup [(.int 0), (.int (-1))])]))) (pN 8))) (pA (eC (.int 0))))) (pN 9))) (pA (eP2 pMul (pA (eP2 pIdx (pA (eP2 pIdx (pA (eC (.tup [(.tup [(.int 1), (.int 0)]), (.tup [(.int 0), (.int 1)]), (.tup [(.int (-1)), (.int 0)]), (.tup [(.int 0), (.int (-1))])]))) (pN 8))) (pA (eC (.int 1))))) (pN 10))))) (pA (eC (.int 0))))) (sNil)))))
def f_heard : Fn := runFn 11 d_heard
def d_ears : Sm := sSeq (sRet (eP1 pTuple (pA (eLC (iR1 (eP1 pLen (pA (eP2 pIdx (pN 0) (pA (eC (.int 1))))))) [4] (tgN 4) (eCall f_heard (esCons (eVar 0) (esCons (eVar 4) (esCons (eVar 1) (esCons (eVar 2) (esCons (eVar 3) (esNil))))))) (eVar 4))))) (sNil)
def f_ears : Fn := runFn 5 d_ears
def d_hearers : Sm := sSeq (sEx (eCall f_look_crowd (esCons (eVar 0) (esNil)))) (sSeq (sEx (eCall f_look_one (esCons (eVar 0) (esCons (eVar 1) (esNil))))) (sSeq (sEx (eCall f_look_beat (esCons (eVar 2) (esNil)))) (sSeq (sEx (eCall f_look_lates (esCons (eVar 0) (esCons (eVar 3) (esNil))))) (sSeq (sRet (eCall f_ears (esCons (eVar 0) (esCons (eVar 1) (esCons (eVar 2) (esCons (eVar 3) (esNil))))))) (sNil)))))
def f_hearers : Fn := runFn 4 d_hearers
def d_may_tell : Sm := sSeq (sIf (eP2 pInX (pN 1) (pA (eP2 pIdx (pN 0) (pA (eC (.int 2)))))) (sSeq (sRet (eC (.bl false))) (sNil)) (sNil)) (sSeq (sRet (eNot (eP1 pAny (pA (eLC (iP (pA (eCall f_ears (esCons (eVar 0) (esCons (eVar 1) (esCons (eVar 2) (esCons (eVar 3) (esNil)))))))) [4] (tgN 4) (eYes) (eP2 pInX (pN 4) (pA (eP2 pIdx (pN 0) (pA (eC (.int 2))))))))))) (sNil))
def f_may_tell : Fn := runFn 5 d_may_tell
def d_is_let : Sm := sSeq (sEx (eCall f_look_crowd (esCons (eVar 0) (esNil)))) (sSeq (sEx (eCall f_look_one (esCons (eVar 0) (esCons (eVar 1) (esNil))))) (sSeq (sEx (eCall f_look_beat (esCons (eVar 2) (esNil)))) (sSeq (sEx (eCall f_look_lates (esCons (eVar 0) (esCons (eVar 3) (esNil))))) (sSeq (sRet (eCall f_may_tell (esCons (eVar 0) (esCons (eVar 1) (esCons (eVar 2) (esCons (eVar 3) (esNil))))))) (sNil)))))
def f_is_let : Fn := runFn 4 d_is_let
def d_common : Sm := sSeq (sWhile (eP2 pNeK (pN 1) (pA (eC (.int 0)))) (sSeq (sPar [0, 1] (esCons (eVar 1) (esCons (eP2 pMod (pN 0) (pN 1)) (esNil)))) (sNil))) (sSeq (sRet (eVar 0)) (sNil))
def f_common : Fn := runFn 2 d_common
def d_round_of : Sm := sSeq (sPut (tgN 1) (eC (.int 1))) (sSeq (sFor (iP (pN 0)) (tgN 2) (sSeq (sFor (iP (pA (eP2 pIdx (pN 2) (pA (eC (.int 1)))))) (tgN 3) (sSeq (sPut (tgN 1) (eP2 pDiv (pA (eP2 pMul (pN 1) (pA (eP1 pLen (pN 3))))) (pA (eCall f_common (esCons (eVar 1) (esCons (eP1 pLen (pN 3)) (esNil))))))) (sNil))) (sNil))) (sSeq (sRet (eVar 1)) (sNil)))
def f_round_of : Fn := runFn 4 d_round_of
def d_joint_round : Sm := sSeq (sEx (eCall f_look_crowd (esCons (eVar 0) (esNil)))) (sSeq (sRet (eCall f_round_of (esCons (eLst (esCons (eVar 0) (esNil))) (esNil)))) (sNil))
def f_joint_round : Fn := runFn 1 d_joint_round
def d_law_town : Sm := sSeq (sRet (eBox (eLst (esCons (eBox (eIf (eP2 pNeK (pN 0) (pA (eLst (esNil)))) (eP1 pListK (pN 0)) (eLst (esCons (eC (.int 0)) (esNil))))) (esCons (eC (.int 0)) (esNil)))))) (sNil)
def f_law_town : Fn := runFn 1 d_law_town
def d_law_draw : Sm := sSeq (sPut (tgN 2) (eP2 pIdx (pN 0) (pA (eC (.int 0))))) (sSeq (sSetC (eVar 0) (eC (.int 1)) (eP2 pAdd (pA (eP2 pIdx (pN 0) (pA (eC (.int 1))))) (pA (eC (.int 1))))) (sSeq (sPut (tgN 3) (eP2 pMod (pA (eP2 pIdx (pN 0) (pA (eC (.int 1))))) (pA (eP1 pLen (pN 2))))) (sSeq (sPut (tgN 4) (eP2 pIdx (pN 2) (pN 3))) (sSeq (sIf (eP2 pGe (pN 4) (pA (eC (.int 1000000000000000000)))) (sSeq (sSetC (eVar 2) (eVar 3) (eP2 pDiv (pN 4) (pN 1))) (sSeq (sRet (eP2 pMod (pN 4) (pN 1))) (sNil))) (sNil)) (sSeq (sPut (tgN 5) (eP2 pMod (pA (eP2 pAdd (pN 4) (pA (eP2 pMul (pA (eC (.int 104729))) (pA (eP2 pIdx (pN 0) (pA (eC (.int 1))))))))) (pA (eC (.int 4294967291))))) (sSeq (sPut (tgN 5) (eP2 pMod (pA (eP2 pPow (pN 5) (pA (eC (.int 5))))) (pA (eC (.int 4294967279))))) (sSeq (sRet (eP2 pMod (pA (eP2 pDiv (pA (eP2 pMod (pA (eP2 pAdd (pA (eP2 pMul (pA (eP2 pDiv (pN 5) (pA (eC (.int 64))))) (pA (eC (.int 69621))))) (pN 5))) (pA (eC (.int 4294967231))))) (pA (eC (.int 8))))) (pN 1))) (sNil))))))))
def f_law_draw : Fn := runFn 6 d_law_draw
def d_law_pick : Sm := sSeq (sRet (eP2 pIdx (pN 1) (pA (eCall f_law_draw (esCons (eVar 0) (esCons (eP1 pLen (pN 1)) (esNil))))))) (sNil)
def f_law_pick : Fn := runFn 2 d_law_pick
def d_law_is : Sm := sSeq (sRet (eAnd (eP1 (pIsi .bool) (pN 0)) (eP2 pEq (pN 0) (pN 1)))) (sNil)
def f_law_is : Fn := runFn 2 d_law_is
def d_law_meetings : Sm := sSeq (sPut (tgN 3) (eP2 pAdd (pA (eC (.int 3))) (pA (eCall f_law_draw (esCons (eVar 0) (esCons (eVar 2) (esNil))))))) (sSeq (sOwn 4 (eLC (iR1 (eVar 1)) [10] (tgN 10) (eYes) (eBox (eLst esNil)))) (sSeq (sFz 4) (sSeq (sPut (tgN 5) (eP2 pGt (pA (eCall f_law_draw (esCons (eVar 0) (esCons (eC (.int 3)) (esNil))))) (pA (eC (.int 0))))) (sSeq (sFor (iR1 (eVar 3)) (tgN 6) (sSeq (sOwn 8 (eLR (eVar 1))) (sSeq (sOwn 9 (eLst (esCons (eP2 pSub (pA (eC (.int 0))) (pA (eC (.int 8)))) (esCons (eP2 pSub (pA (eC (.int 0))) (pA (eC (.int 2)))) (esCons (eC (.int 4)) (esCons (eP2 pSub (pA (eP2 pAdd (pA (eP2 pSub (pA (eC (.int 0))) (pA (eC (.int 8))))) (pA (eP2 pMul (pA (eC (.int 6))) (pA (eC (.int 3))))))) (pA (eC (.int 1)))) (esNil))))))) (sSeq (sWhile (eP2 pNeK (pN 8) (pA (eLst (esNil)))) (sSeq (sPopIf 11 9 (eP2 pGt (pA (eP1 pLen (pN 9))) (pA (eC (.int 0)))) (eC (.int 0)) (eC (.int 0))) (sSeq (sPut (tgN 12) (eIf (eP2 pGt (pA (eP1 pLen (pN 9))) (pA (eC (.int 0)))) (eP2 pMul (pA (eC (.int 5))) (pA (eP2 pMod (pA (eP1 pLen (pN 9))) (pA (eC (.int 2)))))) (eC (.int 9)))) (sSeq (sFor (iP (pA (eCut (pA (eLst (esCons (eTup (esCons (eVar 11) (esCons (eVar 12) (esCons (eC (.int 0)) (esNil))))) (esCons (eTup (esCons (eP2 pAdd (pN 11) (pA (eC (.int 1)))) (esCons (eVar 12) (esCons (eC (.int 2)) (esNil))))) (esCons (eTup (esCons (eVar 11) (esCons (eP2 pAdd (pN 12) (pA (eC (.int 1)))) (esCons (eC (.int 3)) (esNil))))) (esNil)))))) none (some (eCall f_law_pick (esCons (eVar 0) (esCons (eIf (eVar 5) (eLst (esCons (eC (.int 1)) (esCons (eC (.int 2)) (esCons (eC (.int 1)) (esCons (eC (.int 2)) (esCons (eC (.int 2)) (esCons (eC (.int 1)) (esNil)))))))) (eLst (esCons (eC (.int 2)) (esCons (eC (.int 2)) (esCons (eC (.int 2)) (esCons (eC (.int 2)) (esCons (eC (.int 1)) (esCons (eC (.int 3)) (esNil))))))))) (esNil)))))))) (tgT [13, 14, 15]) (sSeq (sIf (eP2 pNeK (pN 8) (pA (eLst (esNil)))) (sSeq (sPop 16 8 (eIf (eVar 5) (eC (.int 0)) (eCall f_law_draw (esCons (eVar 0) (esCons (eP1 pLen (pN 8)) (esNil)))))) (sSeq (sAppC (eP2 pIdx (pN 4) (pN 16)) (eTup (esCons (eP2 pMin2 (pN 13) (pA (eC (.int 9)))) (esCons (eP2 pMin2 (pN 14) (pA (eC (.int 9)))) (esCons (eIf (eP2 pGt (pA (eCall f_law_draw (esCons (eVar 0) (esCons (eC (.int 9)) (esNil))))) (pA (eC (.int 0)))) (eVar 15) (eCall f_law_draw (esCons (eVar 0) (esCons (eC (.int 4)) (esNil))))) (esNil)))))) (sNil))) (sNil)) (sNil))) (sNil))))) (sNil))))) (sSeq (sPut (tgN 7) (eP1 pTuple (pA (eLC (iR1 (eVar 1)) [10] (tgN 10) (eP2 pEq (pA (eCall f_law_draw (esCons (eVar 0) (esCons (eC (.int 15)) (esNil))))) (pA (eC (.int 0)))) (eVar 10))))) (sSeq (sRet (eTup (esCons (eP2 pAdd (pA (eC (.int 1))) (pA (eCall f_law_draw (esCons (eVar 0) (esCons (eC (.int 2)) (esNil)))))) (esCons (eP1 pTuple (pA (eLC (iP (pN 4)) [17] (tgN 17) (eYes) (eP1 pTuple (pN 17))))) (esCons (eVar 7) (esNil)))))) (sNil)))))))
def f_law_meetings : Fn := runFn 18 d_law_meetings
def d_law_crowd : Sm := sSeq (sIf (eP2 pGt (pA (eCall f_law_draw (esCons (eVar 0) (esCons (eC (.int 3)) (esNil))))) (pA (eC (.int 0)))) (sSeq (sRet (eCall f_law_meetings (esCons (eVar 0) (esCons (eVar 1) (esCons (eVar 2) (esNil)))))) (sNil)) (sNil)) (sSeq (sOwn 3 (eLst (esNil))) (sSeq (sPut (tgT [6, 7]) (eCall f_law_pick (esCons (eVar 0) (esCons (eLst (esCons (eTup (esCons (eC (.int 4)) (esCons (eC (.int 0)) (esNil)))) (esCons (eTup (esCons (eC (.int 2)) (esCons (eC (.int 1)) (esNil)))) (esCons (eTup (esCons (eC (.int 2)) (esCons (eC (.int 1)) (esNil)))) (esCons (eTup (esCons (eC (.int 1)) (esCons (eC (.int 1)) (esNil)))) (esNil)))))) (esNil))))) (sSeq (sFor (iR1 (eVar 1)) (tgN 4) (sSeq (sOwn 8 (eLst (esNil))) (sSeq (sFor (iR1 (eP2 pAdd (pA (eC (.int 1))) (pA (eCall f_law_draw (esCons (eVar 0) (esCons (eVar 2) (esNil))))))) (tgN 9) (sSeq (sApp 8 (eTup (esCons (eP2 pAdd (pA (eP2 pMul (pN 7) (pN 4))) (pA (eCall f_law_draw (esCons (eVar 0) (esCons (eVar 6) (esNil)))))) (esCons (eCall f_law_draw (esCons (eVar 0) (esCons (eC (.int 2)) (esNil)))) (esCons (eCall f_law_draw (esCons (eVar 0) (esCons (eC (.int 4)) (esNil)))) (esNil)))))) (sNil))) (sSeq (sApp 3 (eP1 pTuple (pN 8))) (sNil))))) (sSeq (sPut (tgN 5) (eP1 pTuple (pA (eLC (iR1 (eVar 1)) [4] (tgN 4) (eP2 pEq (pA (eCall f_law_draw (esCons (eVar 0) (esCons (eC (.int 10)) (esNil))))) (pA (eC (.int 0)))) (eVar 4))))) (sSeq (sRet (eTup (esCons (eP2 pAdd (pA (eC (.int 1))) (pA (eP2 pDiv (pA (eCall f_law_draw (esCons (eVar 0) (esCons (eC (.int 5)) (esNil))))) (pA (eC (.int 2)))))) (esCons (eP1 pTuple (pN 3)) (esCons (eVar 5) (esNil)))))) (sNil))))))
def f_law_crowd : Fn := runFn 10 d_law_crowd
def d_law_stand : Sm := sSeq (sPut (tgN 4) (eP2 pIdx (pA (eP2 pIdx (pN 0) (pA (eC (.int 1))))) (pN 1))) (sSeq (sFor (iP (pN 3)) (tgT [5, 6, 7]) (sSeq (sIf (eAnd (eP2 pEq (pN 5) (pN 1)) (eP2 pGe (pN 2) (pN 6))) (sSeq (sRet (eP2 pIdx (pN 4) (pA (eP2 pMod (pA (eP2 pSub (pN 2) (pN 7))) (pA (eP1 pLen (pN 4))))))) (sNil)) (sNil)) (sNil))) (sSeq (sRet (eP2 pIdx (pN 4) (pA (eP2 pMod (pN 2) (pA (eP1 pLen (pN 4))))))) (sNil)))
def f_law_stand : Fn := runFn 8 d_law_stand
def d_law_hears : Sm := sSeq (sPut (tgT [7, 8, 9]) (eCall f_law_stand (esCons (eVar 0) (esCons (eVar 1) (esCons (eVar 3) (esCons (eVar 4) (esNil))))))) (sSeq (sPut (tgT [10, 11, 12]) (eCall f_law_stand (esCons (eVar 0) (esCons (eVar 2) (esCons (eVar 3) (esCons (eVar 4) (esNil))))))) (sSeq (sPut (tgN 5) (eP2 pAdd (pA (eP2 pMax2 (pA (eP2 pSub (pN 10) (pN 7))) (pA (eP2 pSub (pN 7) (pN 10))))) (pA (eP2 pMax2 (pA (eP2 pSub (pN 11) (pN 8))) (pA (eP2 pSub (pN 8) (pN 11))))))) (sSeq (sPut (tgN 6) (eP2 pIdx (pA (eLst (esCons (eP2 pGe (pN 10) (pN 7)) (esCons (eP2 pGe (pN 11) (pN 8)) (esCons (eP2 pLe (pN 10) (pN 7)) (esCons (eP2 pLe (pN 11) (pN 8)) (esNil))))))) (pN 9))) (sSeq (sRet (eAnd (eP2 pNeK (pN 1) (pN 2)) (eAnd (eP2 pLe (pN 5) (pA (eP2 pIdx (pN 0) (pA (eC (.int 0)))))) (eVar 6)))) (sNil)))))
def f_law_hears : Fn := runFn 13 d_law_hears
def d_law_ears : Sm := sSeq (sRet (eLC (iR1 (eP1 pLen (pA (eP2 pIdx (pN 0) (pA (eC (.int 1))))))) [4] (tgN 4) (eCall f_law_hears (esCons (eVar 0) (esCons (eVar 4) (esCons (eVar 1) (esCons (eVar 2) (esCons (eVar 3) (esNil))))))) (eVar 4))) (sNil)
def f_law_ears : Fn := runFn 5 d_law_ears
def d_law_let : Sm := sSeq (sPut (tgN 4) (eCall f_law_ears (esCons (eVar 0) (esCons (eVar 1) (esCons (eVar 2) (esCons (eVar 3) (esNil))))))) (sSeq (sIf (eOr (eP2 pInX (pN 1) (pA (eP2 pIdx (pN 0) (pA (eC (.int 2)))))) (eP2 pNeK (pA (eLC (iP (pN 4)) [5] (tgN 5) (eP2 pInX (pN 5) (pA (eP2 pIdx (pN 0) (pA (eC (.int 2)))))) (eVar 5))) (pA (eLst (esNil))))) (sSeq (sRet (eC .non)) (sNil)) (sNil)) (sSeq (sRet (eVar 4)) (sNil)))
def f_law_let : Fn := runFn 6 d_law_let
def d_law_size : Sm := sSeq (sPut (tgN 1) (eLst (esNil))) (sSeq (sFor (iP (pN 0)) (tgN 2) (sSeq (sPut (tgN 1) (eP2 pAdd (pN 1) (pA (eLC (iP (pA (eP2 pIdx (pN 2) (pA (eC (.int 1)))))) [5] (tgN 5) (eYes) (eP1 pLen (pN 5)))))) (sNil))) (sSeq (sPut (tgN 3) (eC (.int 1))) (sSeq (sWhile (eP2 pNeK (pA (eLC (iP (pN 1)) [4] (tgN 4) (eP2 pNeK (pA (eP2 pMod (pN 3) (pN 4))) (pA (eC (.int 0)))) (eVar 4))) (pA (eLst (esNil)))) (sSeq (sPut (tgN 3) (eP2 pAdd (pN 3) (pA (eC (.int 1))))) (sNil))) (sSeq (sRet (eVar 3)) (sNil)))))
def f_law_size : Fn := runFn 6 d_law_size
def d_law_some : Sm := sSeq (sRet (eP1 pTuple (pA (eLC (iR1 (eVar 1)) [3] (tgN 3) (eP2 pEq (pA (eCall f_law_draw (esCons (eVar 0) (esCons (eVar 2) (esNil))))) (pA (eC (.int 0)))) (eVar 3))))) (sNil)
def f_law_some : Fn := runFn 4 d_law_some
def d_law : Sm := sSeq (sPut (tgN 1) (eCall f_law_town (esCons (eVar 0) (esNil)))) (sSeq (sPut (tgN 2) (eP2 pAdd (pA (eC (.int 2))) (pA (eCall f_law_draw (esCons (eVar 1) (esCons (eC (.int 5)) (esNil))))))) (sSeq (sPut (tgN 3) (eCall f_law_crowd (esCons (eVar 1) (esCons (eVar 2) (esCons (eC (.int 4)) (esNil)))))) (sSeq (sPut (tgN 4) (eCall f_law_size (esCons (eLst (esCons (eVar 3) (esNil))) (esNil)))) (sSeq (sIf (eOr (eP2 pIsNot (pA (eCall f_is_crowd (esCons (eVar 3) (esNil)))) (pA (eC (.bl true)))) (eP2 pNeK (pA (eCall f_joint_round (esCons (eVar 3) (esNil)))) (pN 4))) (sSeq (sRet (eC (.bl false))) (sNil)) (sNil)) (sSeq (sPut (tgN 5) (eP1 pTuple (pA (eLC (iP (pA (eCall f_law_some (esCons (eVar 1) (esCons (eP2 pMin2 (pN 2) (pA (eC (.int 4)))) (esCons (eC (.int 3)) (esNil))))))) [8] (tgN 8) (eYes) (eTup (esCons (eVar 8) (esCons (eCall f_law_draw (esCons (eVar 1) (esCons (eC (.int 9)) (esNil)))) (esCons (eP2 pAdd (pA (eC (.int 1))) (pA (eCall f_law_draw (esCons (eVar 1) (esCons (eC (.int 6)) (esNil)))))) (esNil))))))))) (sSeq (sFor (iR1 (eC (.int 4))) (tgN 6) (sSeq (sPut (tgN 7) (eCall f_law_pick (esCons (eVar 1) (esCons (eLst (esCons (eCall f_law_draw (esCons (eVar 1) (esCons (eC (.int 12)) (esNil)))) (esCons (eP2 pSub (pA (eC (.int 1000000000000))) (pA (eCall f_law_draw (esCons (eVar 1) (esCons (eC (.int 9)) (esNil)))))) (esCons (eCall f_law_draw (esCons (eVar 1) (esCons (eC (.int 100000)) (esNil)))) (esNil))))) (esNil))))) (sSeq (sFor (iR1 (eVar 2)) (tgN 8) (sSeq (sIf (eP2 pNeK (pA (eCallK f_stand (esCons (eVar 3) (esCons (eVar 8) (esCons (eVar 7) (esNil)))) (esCons (eVar 5) (esNil)))) (pA (eCall f_law_stand (esCons (eVar 3) (esCons (eVar 8) (esCons (eVar 7) (esCons (eVar 5) (esNil)))))))) (sSeq (sRet (eC (.bl false))) (sNil)) (sNil)) (sSeq (sPut (tgN 9) (eCall f_law_ears (esCons (eVar 3) (esCons (eVar 8) (esCons (eVar 7) (esCons (eVar 5) (esNil))))))) (sSeq (sIf (eP2 pNeK (pA (eCallK f_hearers (esCons (eVar 3) (esCons (eVar 8) (esCons (eVar 7) (esNil)))) (esCons (eVar 5) (esNil)))) (pA (eP1 pTuple (pN 9)))) (sSeq (sRet (eC (.bl false))) (sNil)) (sNil)) (sSeq (sPut (tgN 10) (eP2 pIsNot (pA (eCall f_law_let (esCons (eVar 3) (esCons (eVar 8) (esCons (eVar 7) (esCons (eVar 5) (esNil))))))) (pA (eC .non)))) (sSeq (sIf (eNot (eCall f_law_is (esCons (eCallK f_is_let (esCons (eVar 3) (esCons (eVar 8) (esCons (eVar 7) (esNil)))) (esCons (eVar 5) (esNil))) (esCons (eVar 10) (esNil))))) (sSeq (sRet (eC (.bl false))) (sNil)) (sNil)) (sSeq (sPut (tgN 11) (eCallD f_hearers [(.tup [])] (esCons (eVar 3) (esCons (eVar 8) (esCons (eP2 pMod (pN 7) (pN 4)) (esNil)))))) (sSeq (sIf (eOr (eP2 pNeK (pN 11) (pA (eP1 pTuple (pA (eCall f_law_ears (esCons (eVar 3) (esCons (eVar 8) (esCons (eVar 7) (esCons (eTup (esNil)) (esNil)))))))))) (eP2 pNeK (pA (eCallD f_hearers [(.tup [])] (esCons (eVar 3) (esCons (eVar 8) (esCons (eVar 7) (esNil)))))) (pN 11))) (sSeq (sRet (eC (.bl false))) (sNil)) (sNil)) (sSeq (sIf (eP2 pNeK (pA (eCallD f_is_let [(.tup [])] (esCons (eVar 3) (esCons (eVar 8) (esCons (eVar 7) (esNil)))))) (pA (eCallD f_is_let [(.tup [])] (esCons (eVar 3) (esCons (eVar 8) (esCons (eP2 pMod (pN 7) (pN 4)) (esNil))))))) (sSeq (sRet (eC (.bl false))) (sNil)) (sNil)) (sNil)))))))))) (sNil)))) (sSeq (sRet (eP2 pEq (pA (eCallD f_stand [(.tup [])] (esCons (eVar 3) (esCons (eC (.int 0)) (esCons (eVar 4) (esNil)))))) (pA (eP2 pIdx (pA (eP2 pIdx (pA (eP2 pIdx (pN 3) (pA (eC (.int 1))))) (pA (eC (.int 0))))) (pA (eC (.int 0))))))) (sNil))))))))
def f_law : Fn := runFn 12 d_law
/-! ### each def does it -/
section
variable {P : Program} {W : World} {K : PySem.W.Frag} {mg : Str → Option Value} {base : Heap} {C : Kx → Addr}
theorem sc_is_whole : FnScope [("thing" : Str), ("low" : Str), ("high" : Str)] [("thing" : Str), ("low" : Str), ("high" : Str)] (defScope t_is_whole) := ⟨rfl, rfl, rfl, by decide +kernel, rfl, by decide +kernel, by decide +kernel⟩
theorem k_is_whole {f : Addr} {fd : FuncData} {dvs : List V} {kws : List (Str × V)} (T : Txt K mg)  (F : FnP K ("is_whole" : Str) t_is_whole dvs kws f fd) : FnOk P W K mg base (L2.CX P W) 1 f fd [("thing" : Str), ("low" : Str), ("high" : Str)] (spF K C f_is_whole 3) :=
  fn_okD (k := 0) F sc_is_whole fun cdv A outer s H EX hr =>
    (hs_cons (h_ret (h_and (h_isi .int (by rfl) T.b_isinstance (by rfl) T.b_int bb_int (p_n 0)) (h_and (h_not (h_isi .bool (by rfl) T.b_isinstance (by rfl) T.b_bool bb_bool (p_n 0))) (h_one (h_chain op_le op_le s_le s_le (h_var 1) (h_var 0) (h_var 2))))))
    hs_nil)
theorem sc_is_stand : FnScope [("thing" : Str), ("one" : Str)] [("thing" : Str)] (defScope t_is_stand) := ⟨rfl, rfl, rfl, by decide +kernel, rfl, by decide +kernel, by decide +kernel⟩
theorem k_is_stand {f : Addr} {fd : FuncData} {dvs : List V} {kws : List (Str × V)} (T : Txt K mg) (c_is_whole : Cal P W K mg base C ("is_whole" : Str) 1 3 f_is_whole) (F : FnP K ("is_stand" : Str) t_is_stand dvs kws f fd) : FnOk P W K mg base (L2.CX P W) 2 f fd [("thing" : Str)] (spF K C f_is_stand 1) :=
  fn_okD (k := 1) F sc_is_stand fun cdv A outer s H EX hr =>
    (hs_cons (h_ifS ((hw_or (ht_not (ht_val (h_isi .tuple (by rfl) T.b_isinstance (by rfl) T.b_tuple bb_tuple (p_n 0)))) (hw_or (hpt_cmp (op_neD (hu64 hr)) s_neK (nomark _) (p_a (hp_b1 call_len_seq s_len (by rfl) T.b_len bb_len (p_n 0))) (p_a h_int)) (hw_or1 (ht_not (ht_val (hc_call (k := 1) c_is_whole (hr.mono (by decide)) (by exact takes_of rfl rfl rfl rfl) (by rfl) (ha_cons (hp_ix o_ix s_ix (by intro _ _; rfl) (p_n 0) (p_a h_int)) (ha_cons h_int (ha_cons h_int ha_nil))) (el_cons (el_cons (el_cons el_nil)))))))))).pt (hs_cons (h_ret h_bl)
    hs_nil) hs_nil)
    (hs_cons (h_ret (hp_b1 (cr_all (by rfl)) s_all (by rfl) T.b_all bb_all (p_a (h_lc (E' := E0) (own := [(("one" : Str), 1)]) (by rfl) sc_is_stand.nd (i_p (p_a (h_cut (p_n 0) ho_none (ho_some h_int)))) (blk_ok (by kernel_rfl)) (fun _ _ _ _ _ => (g_name (i := 1) sc_is_stand.nd (by rfl) (by first | exact Or.inl rfl | exact Or.inr rfl))) (fun _ _ _ _ _ => ht_none) (fun _ _ _ _ _ => (hc_call (k := 1) c_is_whole (hr.mono (by decide)) takes0 (by rfl) (ha_cons (h_var 1) (ha_cons (h_op1 un_neg s_neg (h_con (by rfl) T.c_MOST_PLACE)) (ha_cons (h_con (by rfl) T.c_MOST_PLACE) ha_nil))) (el_cons (el_cons (el_cons el_nil))))) (tg_n 1)))))
    hs_nil))
theorem sc_is_folk : FnScope [("thing" : Str), ("many" : Str), ("k" : Str), ("one" : Str)] [("thing" : Str), ("many" : Str)] (defScope t_is_folk) := ⟨rfl, rfl, rfl, by decide +kernel, rfl, by decide +kernel, by decide +kernel⟩
theorem k_is_folk {f : Addr} {fd : FuncData} {dvs : List V} {kws : List (Str × V)} (T : Txt K mg) (c_is_whole : Cal P W K mg base C ("is_whole" : Str) 1 3 f_is_whole) (F : FnP K ("is_folk" : Str) t_is_folk dvs kws f fd) : FnOk P W K mg base (L2.CX P W) 2 f fd [("thing" : Str), ("many" : Str)] (spF K C f_is_folk 2) :=
  fn_okD (k := 1) F sc_is_folk fun cdv A outer s H EX hr =>
    (hs_cons (h_ifS ((hw_or (ht_not (ht_val (h_isi .tuple (by rfl) T.b_isinstance (by rfl) T.b_tuple bb_tuple (p_n 0)))) (hw_or1 (ht_not (ht_val (hp_b1 (cr_all (by rfl)) s_all (by rfl) T.b_all bb_all (p_a (h_lc (E' := E0) (own := [(("one" : Str), 3)]) (by rfl) sc_is_folk.nd (i_p (p_n 0)) (blk_ok (by kernel_rfl)) (fun _ _ _ _ _ => (g_name (i := 3) sc_is_folk.nd (by rfl) (by first | exact Or.inl rfl | exact Or.inr rfl))) (fun _ _ _ _ _ => ht_none) (fun _ _ _ _ _ => (hc_call (k := 1) c_is_whole (hr.mono (by decide)) takes0 (by rfl) (ha_cons (h_var 3) (ha_cons h_int (ha_cons (hp_op2 op_sub s_sub (p_n 1) (p_a h_int)) ha_nil))) (el_cons (el_cons (el_cons el_nil))))) (tg_n 3))))))))).pt (hs_cons (h_ret h_bl)
    hs_nil) hs_nil)
    (hs_cons (h_ret (hp_b1 (cr_all (by rfl)) s_all (by rfl) T.b_all bb_all (p_a (h_lc (E' := E0) (own := [(("k" : Str), 2)]) (by rfl) sc_is_folk.nd (i_r1 (by rfl) T.b_range (hp_op2 op_sub s_sub (p_a (hp_b1 call_len_seq s_len (by rfl) T.b_len bb_len (p_n 0))) (p_a h_int))) (blk_ok (by kernel_rfl)) (fun _ _ _ _ _ => (g_name (i := 2) sc_is_folk.nd (by rfl) (by first | exact Or.inl rfl | exact Or.inr rfl))) (fun _ _ _ _ _ => ht_none) (fun _ _ _ _ _ => (hp_cmp op_lt s_lt (nomark _) (p_a (hp_ix o_ix s_ix (by intro _ _; rfl) (p_n 0) (p_n 2))) (p_a (hp_ix o_ix s_ix (by intro _ _; rfl) (p_n 0) (p_a (hp_op2 o_add s_add (p_n 2) (p_a h_int))))))) (tg_n 2)))))
    hs_nil))
theorem sc_is_crowd : FnScope [("thing" : Str), ("row" : Str), ("reach" : Str), ("rows" : Str), ("barred" : Str), ("one" : Str)] [("thing" : Str)] (defScope t_is_crowd) := ⟨rfl, rfl, rfl, by decide +kernel, rfl, by decide +kernel, by decide +kernel⟩
theorem k_is_crowd {f : Addr} {fd : FuncData} {dvs : List V} {kws : List (Str × V)} (T : Txt K mg) (c_is_whole : Cal P W K mg base C ("is_whole" : Str) 1 3 f_is_whole) (c_is_stand : Cal P W K mg base C ("is_stand" : Str) 2 1 f_is_stand) (c_is_folk : Cal P W K mg base C ("is_folk" : Str) 2 2 f_is_folk) (F : FnP K ("is_crowd" : Str) t_is_crowd dvs kws f fd) : FnOk P W K mg base (L2.CX P W) 3 f fd [("thing" : Str)] (spF K C f_is_crowd 1) :=
  fn_okD (k := 2) F sc_is_crowd fun cdv A outer s H EX hr =>
    (hs_cons (h_ifS ((hw_or (ht_not (ht_val (h_isi .tuple (by rfl) T.b_isinstance (by rfl) T.b_tuple bb_tuple (p_n 0)))) (hw_or (hpt_cmp (op_neD (hu64 hr)) s_neK (nomark _) (p_a (hp_b1 call_len_seq s_len (by rfl) T.b_len bb_len (p_n 0))) (p_a h_int)) (hw_or1 (ht_not (ht_val (hc_call (k := 1) c_is_whole (hr.mono (by decide)) (by exact takes_of rfl rfl rfl rfl) (by rfl) (ha_cons (hp_ix o_ix s_ix (by intro _ _; rfl) (p_n 0) (p_a h_int)) (ha_cons h_int (ha_cons (hp_op2 o_mul s_mul (p_a h_int) (p_a (h_con (by rfl) T.c_MOST_PLACE))) ha_nil))) (el_cons (el_cons (el_cons el_nil)))))))))).pt (hs_cons (h_ret h_bl)
    hs_nil) hs_nil)
    (hs_cons (h_put (h_var 0) (g_tup (by rfl) (gs_cons (i := 2) sc_is_crowd.nd (by rfl) (by first | exact Or.inl rfl | exact Or.inr rfl) (gs_cons (i := 3) sc_is_crowd.nd (by rfl) (by first | exact Or.inl rfl | exact Or.inr rfl) (gs_cons (i := 4) sc_is_crowd.nd (by rfl) (by first | exact Or.inl rfl | exact Or.inr rfl) gs_nil)))))
    (hs_cons (h_ifS ((hw_or (ht_not (ht_val (h_isi .tuple (by rfl) T.b_isinstance (by rfl) T.b_tuple bb_tuple (p_n 3)))) (hw_or1 (ht_not (ht_chain op_le op_le s_le s_le h_int (hp_b1 call_len_seq s_len (by rfl) T.b_len bb_len (p_n 3)) (h_con (by rfl) T.c_MOST_FOLK)))))).pt (hs_cons (h_ret h_bl)
    hs_nil) hs_nil)
    (hs_cons (h_for (by exact passes_of rfl) (by rfl) (i_p (p_n 3)) (g_name (i := 1) sc_is_crowd.nd (by rfl) (by first | exact Or.inl rfl | exact Or.inr rfl)) (hs_cons (h_ifS ((hw_or (ht_not (ht_val (h_isi .tuple (by rfl) T.b_isinstance (by rfl) T.b_tuple bb_tuple (p_n 1)))) (hw_or (ht_not (ht_chain op_le op_le s_le s_le h_int (hp_b1 call_len_seq s_len (by rfl) T.b_len bb_len (p_n 1)) (h_con (by rfl) T.c_MOST_STANDS))) (hw_or1 (ht_not (ht_val (hp_b1 (cr_all (by rfl)) s_all (by rfl) T.b_all bb_all (p_a (h_lc (E' := E0) (own := [(("one" : Str), 5)]) (by rfl) sc_is_crowd.nd (i_p (p_n 1)) (blk_ok (by kernel_rfl)) (fun _ _ _ _ _ => (g_name (i := 5) sc_is_crowd.nd (by rfl) (by first | exact Or.inl rfl | exact Or.inr rfl))) (fun _ _ _ _ _ => ht_none) (fun _ _ _ _ _ => (hc_call (k := 2) c_is_stand (hr.mono (by decide)) takes0 (by rfl) (ha_cons (h_var 5) ha_nil) (el_cons el_nil))) (tg_n 5)))))))))).pt (hs_cons (h_ret h_bl)
    hs_nil) hs_nil)
    hs_nil))
    (hs_cons (h_ret (hc_call (k := 2) c_is_folk (hr.mono (by decide)) (by exact takes_of rfl rfl rfl rfl) (by rfl) (ha_cons (h_var 4) (ha_cons (hp_b1 call_len_seq s_len (by rfl) T.b_len bb_len (p_n 3)) ha_nil)) (el_cons (el_cons el_nil))))
    hs_nil)))))
theorem sc_look_crowd : FnScope [("thing" : Str)] [("thing" : Str)] (defScope t_look_crowd) := ⟨rfl, rfl, rfl, by decide +kernel, rfl, by decide +kernel, by decide +kernel⟩
theorem k_look_crowd {f : Addr} {fd : FuncData} {dvs : List V} {kws : List (Str × V)} (T : Txt K mg) (c_is_crowd : Cal P W K mg base C ("is_crowd" : Str) 3 1 f_is_crowd) (F : FnP K ("look_crowd" : Str) t_look_crowd dvs kws f fd) : FnOk P W K mg base (L2.CX P W) 4 f fd [("thing" : Str)] (spF K C f_look_crowd 1) :=
  fn_okD (k := 3) F sc_look_crowd fun cdv A outer s H EX hr =>
    (hs_cons (h_ifS (ht_not (ht_val (hc_call (k := 3) c_is_crowd (hr.mono (by decide)) (by exact takes_of rfl rfl rfl rfl) (by rfl) (ha_cons (h_var 0) ha_nil) (el_cons el_nil)))) (hs_cons h_badS
    hs_nil) hs_nil)
    hs_nil)
theorem sc_look_one : FnScope [("crowd" : Str), ("thing" : Str)] [("crowd" : Str), ("thing" : Str)] (defScope t_look_one) := ⟨rfl, rfl, rfl, by decide +kernel, rfl, by decide +kernel, by decide +kernel⟩
theorem k_look_one {f : Addr} {fd : FuncData} {dvs : List V} {kws : List (Str × V)} (T : Txt K mg) (c_is_whole : Cal P W K mg base C ("is_whole" : Str) 1 3 f_is_whole) (F : FnP K ("look_one" : Str) t_look_one dvs kws f fd) : FnOk P W K mg base (L2.CX P W) 2 f fd [("crowd" : Str), ("thing" : Str)] (spF K C f_look_one 2) :=
  fn_okD (k := 1) F sc_look_one fun cdv A outer s H EX hr =>
    (hs_cons (h_ifS (ht_not (ht_val (hc_call (k := 1) c_is_whole (hr.mono (by decide)) (by exact takes_of rfl rfl rfl rfl) (by rfl) (ha_cons (h_var 1) (ha_cons h_int (ha_cons (hp_op2 op_sub s_sub (p_a (hp_b1 call_len_seq s_len (by rfl) T.b_len bb_len (p_a (hp_ix o_ix s_ix (by intro _ _; rfl) (p_n 0) (p_a h_int))))) (p_a h_int)) ha_nil))) (el_cons (el_cons (el_cons el_nil)))))) (hs_cons h_badS
    hs_nil) hs_nil)
    hs_nil)
theorem sc_look_beat : FnScope [("thing" : Str)] [("thing" : Str)] (defScope t_look_beat) := ⟨rfl, rfl, rfl, by decide +kernel, rfl, by decide +kernel, by decide +kernel⟩
theorem k_look_beat {f : Addr} {fd : FuncData} {dvs : List V} {kws : List (Str × V)} (T : Txt K mg) (c_is_whole : Cal P W K mg base C ("is_whole" : Str) 1 3 f_is_whole) (F : FnP K ("look_beat" : Str) t_look_beat dvs kws f fd) : FnOk P W K mg base (L2.CX P W) 2 f fd [("thing" : Str)] (spF K C f_look_beat 1) :=
  fn_okD (k := 1) F sc_look_beat fun cdv A outer s H EX hr =>
    (hs_cons (h_ifS (ht_not (ht_val (hc_call (k := 1) c_is_whole (hr.mono (by decide)) (by exact takes_of rfl rfl rfl rfl) (by rfl) (ha_cons (h_var 0) (ha_cons h_int (ha_cons (h_con (by rfl) T.c_MOST_BEAT) ha_nil))) (el_cons (el_cons (el_cons el_nil)))))) (hs_cons h_badS
    hs_nil) hs_nil)
    hs_nil)
theorem sc_is_late : FnScope [("crowd" : Str), ("thing" : Str)] [("crowd" : Str), ("thing" : Str)] (defScope t_is_late) := ⟨rfl, rfl, rfl, by decide +kernel, rfl, by decide +kernel, by decide +kernel⟩
theorem k_is_late {f : Addr} {fd : FuncData} {dvs : List V} {kws : List (Str × V)} (T : Txt K mg) (c_is_whole : Cal P W K mg base C ("is_whole" : Str) 1 3 f_is_whole) (F : FnP K ("is_late" : Str) t_is_late dvs kws f fd) : FnOk P W K mg base (L2.CX P W) 2 f fd [("crowd" : Str), ("thing" : Str)] (spF K C f_is_late 2) :=
  fn_okD (k := 1) F sc_is_late fun cdv A outer s H EX hr =>
    (hs_cons (h_ifS ((hw_or (ht_not (ht_val (h_isi .tuple (by rfl) T.b_isinstance (by rfl) T.b_tuple bb_tuple (p_n 1)))) (hw_or (hpt_cmp (op_neD (hu64 hr)) s_neK (nomark _) (p_a (hp_b1 call_len_seq s_len (by rfl) T.b_len bb_len (p_n 1))) (p_a h_int)) (hw_or1 (ht_not (ht_val (hc_call (k := 1) c_is_whole (hr.mono (by decide)) (by exact takes_of rfl rfl rfl rfl) (by rfl) (ha_cons (hp_ix o_ix s_ix (by intro _ _; rfl) (p_n 1) (p_a h_int)) (ha_cons h_int (ha_cons (hp_op2 op_sub s_sub (p_a (hp_b1 call_len_seq s_len (by rfl) T.b_len bb_len (p_a (hp_ix o_ix s_ix (by intro _ _; rfl) (p_n 0) (p_a h_int))))) (p_a h_int)) ha_nil))) (el_cons (el_cons (el_cons el_nil)))))))))).pt (hs_cons (h_ret h_bl)
    hs_nil) hs_nil)
    (hs_cons (h_ret (h_and (hc_call (k := 1) c_is_whole (hr.mono (by decide)) (by exact takes_of rfl rfl rfl rfl) (by rfl) (ha_cons (hp_ix o_ix s_ix (by intro _ _; rfl) (p_n 1) (p_a h_int)) (ha_cons h_int (ha_cons (h_con (by rfl) T.c_MOST_BEAT) ha_nil))) (el_cons (el_cons (el_cons el_nil)))) (h_one (hc_call (k := 1) c_is_whole (hr.mono (by decide)) (by exact takes_of rfl rfl rfl rfl) (by rfl) (ha_cons (hp_ix o_ix s_ix (by intro _ _; rfl) (p_n 1) (p_a h_int)) (ha_cons h_int (ha_cons (h_con (by rfl) T.c_MOST_STANDS) ha_nil))) (el_cons (el_cons (el_cons el_nil)))))))
    hs_nil))
theorem sc_look_lates : FnScope [("crowd" : Str), ("thing" : Str), ("fine" : Str), ("one" : Str), ("k" : Str)] [("crowd" : Str), ("thing" : Str)] (defScope t_look_lates) := ⟨rfl, rfl, rfl, by decide +kernel, rfl, by decide +kernel, by decide +kernel⟩
theorem k_look_lates {f : Addr} {fd : FuncData} {dvs : List V} {kws : List (Str × V)} (T : Txt K mg) (c_is_late : Cal P W K mg base C ("is_late" : Str) 2 2 f_is_late) (F : FnP K ("look_lates" : Str) t_look_lates dvs kws f fd) : FnOk P W K mg base (L2.CX P W) 3 f fd [("crowd" : Str), ("thing" : Str)] (spF K C f_look_lates 2) :=
  fn_okD (k := 2) F sc_look_lates fun cdv A outer s H EX hr =>
    (hs_cons (h_set (i := 2) sc_look_lates.nd (by rfl) (by first | exact Or.inl rfl | exact Or.inr rfl) (h_and (h_isi .tuple (by rfl) T.b_isinstance (by rfl) T.b_tuple bb_tuple (p_n 1)) (h_and (hp_cmp op_le s_le (nomark _) (p_a (hp_b1 call_len_seq s_len (by rfl) T.b_len bb_len (p_n 1))) (p_a (h_con (by rfl) T.c_MOST_LATE))) (h_one (hp_b1 (cr_all (by rfl)) s_all (by rfl) T.b_all bb_all (p_a (h_lc (E' := E0) (own := [(("one" : Str), 3)]) (by rfl) sc_look_lates.nd (i_p (p_n 1)) (blk_ok (by kernel_rfl)) (fun _ _ _ _ _ => (g_name (i := 3) sc_look_lates.nd (by rfl) (by first | exact Or.inl rfl | exact Or.inr rfl))) (fun _ _ _ _ _ => ht_none) (fun _ _ _ _ _ => (hc_call (k := 2) c_is_late (hr.mono (by decide)) takes0 (by rfl) (ha_cons (h_var 0) (ha_cons (h_var 3) ha_nil)) (el_cons (el_cons el_nil)))) (tg_n 3))))))))
    (hs_cons (h_ifS ((hw_or (ht_not (ht_val (h_var 2))) (hw_or1 (ht_val (hp_b1 (cr_any (by rfl)) s_any (by rfl) T.b_any bb_any (p_a (h_lc (E' := E0) (own := [(("k" : Str), 4)]) (by rfl) sc_look_lates.nd (i_r1 (by rfl) T.b_range (hp_op2 op_sub s_sub (p_a (hp_b1 call_len_seq s_len (by rfl) T.b_len bb_len (p_n 1))) (p_a h_int))) (blk_ok (by kernel_rfl)) (fun _ _ _ _ _ => (g_name (i := 4) sc_look_lates.nd (by rfl) (by first | exact Or.inl rfl | exact Or.inr rfl))) (fun _ _ _ _ _ => ht_none) (fun _ _ _ _ _ => (hp_cmp op_ge s_ge (nomark _) (p_a (hp_ix o_ix s_ix (by intro _ _; rfl) (p_a (hp_ix o_ix s_ix (by intro _ _; rfl) (p_n 1) (p_n 4))) (p_a h_int))) (p_a (hp_ix o_ix s_ix (by intro _ _; rfl) (p_a (hp_ix o_ix s_ix (by intro _ _; rfl) (p_n 1) (p_a (hp_op2 o_add s_add (p_n 4) (p_a h_int))))) (p_a h_int))))) (tg_n 4)))))))).pt (hs_cons h_badS
    hs_nil) hs_nil)
    hs_nil))
theorem sc_stood : FnScope [("crowd" : Str), ("one" : Str), ("beat" : Str), ("late" : Str), ("row" : Str), ("who" : Str), ("since" : Str), ("many" : Str)] [("crowd" : Str), ("one" : Str), ("beat" : Str), ("late" : Str)] (defScope t_stood) := ⟨rfl, rfl, rfl, by decide +kernel, rfl, by decide +kernel, by decide +kernel⟩
theorem k_stood {f : Addr} {fd : FuncData} {dvs : List V} {kws : List (Str × V)} (T : Txt K mg)  (F : FnP K ("stood" : Str) t_stood dvs kws f fd) : FnOk P W K mg base (L2.CX P W) 1 f fd [("crowd" : Str), ("one" : Str), ("beat" : Str), ("late" : Str)] (spF K C f_stood 4) :=
  fn_okD (k := 0) F sc_stood fun cdv A outer s H EX hr =>
    (hs_cons (h_set (i := 4) sc_stood.nd (by rfl) (by first | exact Or.inl rfl | exact Or.inr rfl) (hp_ix o_ix s_ix (by intro _ _; rfl) (p_a (hp_ix o_ix s_ix (by intro _ _; rfl) (p_n 0) (p_a h_int))) (p_n 1)))
    (hs_cons (h_for (by exact passes_of rfl) (by rfl) (i_p (p_n 3)) (g_tup (by rfl) (gs_cons (i := 5) sc_stood.nd (by rfl) (by first | exact Or.inl rfl | exact Or.inr rfl) (gs_cons (i := 6) sc_stood.nd (by rfl) (by first | exact Or.inl rfl | exact Or.inr rfl) (gs_cons (i := 7) sc_stood.nd (by rfl) (by first | exact Or.inl rfl | exact Or.inr rfl) gs_nil)))) (hs_cons (h_ifS ((hw_and (hpt_cmp (op_eqD (hu64 hr)) s_eq (nomark _) (p_n 5) (p_n 1)) (hw_and1 (hpt_cmp op_ge s_ge (nomark _) (p_n 2) (p_n 6))))).pt (hs_cons (h_ret (hp_ix o_ix s_ix (by intro _ _; rfl) (p_n 4) (p_a (hp_op2 op_mod s_mod (p_a (hp_op2 op_sub s_sub (p_n 2) (p_n 7))) (p_a (hp_b1 call_len_seq s_len (by rfl) T.b_len bb_len (p_n 4)))))))
    hs_nil) hs_nil)
    hs_nil))
    (hs_cons (h_ret (hp_ix o_ix s_ix (by intro _ _; rfl) (p_n 4) (p_a (hp_op2 op_mod s_mod (p_n 2) (p_a (hp_b1 call_len_seq s_len (by rfl) T.b_len bb_len (p_n 4)))))))
    hs_nil)))
theorem sc_stand : FnScope [("crowd" : Str), ("one" : Str), ("beat" : Str), ("late" : Str)] [("crowd" : Str), ("one" : Str), ("beat" : Str), ("late" : Str)] (defScope t_stand) := ⟨rfl, rfl, rfl, by decide +kernel, rfl, by decide +kernel, by decide +kernel⟩
theorem k_stand {f : Addr} {fd : FuncData} {dvs : List V} {kws : List (Str × V)} (T : Txt K mg) (c_look_crowd : Cal P W K mg base C ("look_crowd" : Str) 4 1 f_look_crowd) (c_look_one : Cal P W K mg base C ("look_one" : Str) 2 2 f_look_one) (c_look_beat : Cal P W K mg base C ("look_beat" : Str) 2 1 f_look_beat) (c_look_lates : Cal P W K mg base C ("look_lates" : Str) 3 2 f_look_lates) (c_stood : Cal P W K mg base C ("stood" : Str) 1 4 f_stood) (F : FnP K ("stand" : Str) t_stand dvs kws f fd) : FnOk P W K mg base (L2.CX P W) 5 f fd [("crowd" : Str), ("one" : Str), ("beat" : Str), ("late" : Str)] (spF K C f_stand 4) :=
  fn_okD (k := 4) F sc_stand fun cdv A outer s H EX hr =>
    (hs_cons (h_ex (hc_call (k := 4) c_look_crowd (hr.mono (by decide)) (by exact takes_of rfl rfl rfl rfl) (by rfl) (ha_cons (h_var 0) ha_nil) (el_cons el_nil)))
    (hs_cons (h_ex (hc_call (k := 2) c_look_one (hr.mono (by decide)) (by exact takes_of rfl rfl rfl rfl) (by rfl) (ha_cons (h_var 0) (ha_cons (h_var 1) ha_nil)) (el_cons (el_cons el_nil))))
    (hs_cons (h_ex (hc_call (k := 2) c_look_beat (hr.mono (by decide)) (by exact takes_of rfl rfl rfl rfl) (by rfl) (ha_cons (h_var 2) ha_nil) (el_cons el_nil)))
    (hs_cons (h_ex (hc_call (k := 3) c_look_lates (hr.mono (by decide)) (by exact takes_of rfl rfl rfl rfl) (by rfl) (ha_cons (h_var 0) (ha_cons (h_var 3) ha_nil)) (el_cons (el_cons el_nil))))
    (hs_cons (h_ret (hc_call (k := 1) c_stood (hr.mono (by decide)) (by exact takes_of rfl rfl rfl rfl) (by rfl) (ha_cons (h_var 0) (ha_cons (h_var 1) (ha_cons (h_var 2) (ha_cons (h_var 3) ha_nil)))) (el_cons (el_cons (el_cons (el_cons el_nil))))))
    hs_nil)))))
theorem sc_heard : FnScope [("crowd" : Str), ("one" : Str), ("other" : Str), ("beat" : Str), ("late" : Str), ("there" : Str), ("x" : Str), ("y" : Str), ("way" : Str), ("right" : Str), ("up" : Str)] [("crowd" : Str), ("one" : Str), ("other" : Str), ("beat" : Str), ("late" : Str)] (defScope t_heard) := ⟨rfl, rfl, rfl, by decide +kernel, rfl, by decide +kernel, by decide +kernel⟩
theorem k_heard {f : Addr} {fd : FuncData} {dvs : List V} {kws : List (Str × V)} (T : Txt K mg) (c_stood : Cal P W K mg base C ("stood" : Str) 1 4 f_stood) (F : FnP K ("heard" : Str) t_heard dvs kws f fd) : FnOk P W K mg base (L2.CX P W) 2 f fd [("crowd" : Str), ("one" : Str), ("other" : Str), ("beat" : Str), ("late" : Str)] (spF K C f_heard 5) :=
  fn_okD (k := 1) F sc_heard fun cdv A outer s H EX hr =>
    (hs_cons (h_put (hc_call (k := 1) c_stood (hr.mono (by decide)) (by exact takes_of rfl rfl rfl rfl) (by rfl) (ha_cons (h_var 0) (ha_cons (h_var 1) (ha_cons (h_var 3) (ha_cons (h_var 4) ha_nil)))) (el_cons (el_cons (el_cons (el_cons el_nil))))) (g_tup (by rfl) (gs_cons (i := 6) sc_heard.nd (by rfl) (by first | exact Or.inl rfl | exact Or.inr rfl) (gs_cons (i := 7) sc_heard.nd (by rfl) (by first | exact Or.inl rfl | exact Or.inr rfl) (gs_cons (i := 8) sc_heard.nd (by rfl) (by first | exact Or.inl rfl | exact Or.inr rfl) gs_nil)))))
    (hs_cons (h_set (i := 5) sc_heard.nd (by rfl) (by first | exact Or.inl rfl | exact Or.inr rfl) (hc_call (k := 1) c_stood (hr.mono (by decide)) (by exact takes_of rfl rfl rfl rfl) (by rfl) (ha_cons (h_var 0) (ha_cons (h_var 2) (ha_cons (h_var 3) (ha_cons (h_var 4) ha_nil)))) (el_cons (el_cons (el_cons (el_cons el_nil))))))
    (hs_cons (h_par (i := 9) (j := 10) (by rfl) sc_heard.nd (by rfl) (by rfl) (by decide) (by rfl) (by rfl) (ha_cons (hp_op2 op_sub s_sub (p_a (hp_ix o_ix s_ix (by intro _ _; rfl) (p_n 5) (p_a h_int))) (p_n 6)) (ha_cons (hp_op2 op_sub s_sub (p_a (hp_ix o_ix s_ix (by intro _ _; rfl) (p_n 5) (p_a h_int))) (p_n 7)) ha_nil)))
    (hs_cons (h_ifS ((hw_or (hpt_cmp (op_eqD (hu64 hr)) s_eq (nomark _) (p_n 1) (p_n 2)) (hw_or1 (hpt_cmp op_gt s_gt (nomark _) (p_a (hp_op2 o_add s_add (p_a (hp_b1 call_abs s_abs (by rfl) T.b_abs bb_abs (p_n 9))) (p_a (hp_b1 call_abs s_abs (by rfl) T.b_abs bb_abs (p_n 10))))) (p_a (hp_ix o_ix s_ix (by intro _ _; rfl) (p_n 0) (p_a h_int))))))).pt (hs_cons (h_ret h_bl)
    hs_nil) hs_nil)
    (hs_cons (h_ret (hp_cmp op_ge s_ge (nomark _) (p_a (hp_op2 o_add s_add (p_a (hp_op2 o_mul s_mul (p_a (hp_ix o_ix s_ix (by intro _ _; rfl) (p_a (hp_ix o_ix s_ix (by intro _ _; rfl) (p_a (h_con (by rfl) T.c_WAYS)) (p_n 8))) (p_a h_int))) (p_n 9))) (p_a (hp_op2 o_mul s_mul (p_a (hp_ix o_ix s_ix (by intro _ _; rfl) (p_a (hp_ix o_ix s_ix (by intro _ _; rfl) (p_a (h_con (by rfl) T.c_WAYS)) (p_n 8))) (p_a h_int))) (p_n 10))))) (p_a h_int)))
    hs_nil)))))
theorem sc_ears : FnScope [("crowd" : Str), ("teller" : Str), ("beat" : Str), ("late" : Str), ("one" : Str)] [("crowd" : Str), ("teller" : Str), ("beat" : Str), ("late" : Str)] (defScope t_ears) := ⟨rfl, rfl, rfl, by decide +kernel, rfl, by decide +kernel, by decide +kernel⟩
theorem k_ears {f : Addr} {fd : FuncData} {dvs : List V} {kws : List (Str × V)} (T : Txt K mg) (c_heard : Cal P W K mg base C ("heard" : Str) 2 5 f_heard) (F : FnP K ("ears" : Str) t_ears dvs kws f fd) : FnOk P W K mg base (L2.CX P W) 3 f fd [("crowd" : Str), ("teller" : Str), ("beat" : Str), ("late" : Str)] (spF K C f_ears 4) :=
  fn_okD (k := 2) F sc_ears fun cdv A outer s H EX hr =>
    (hs_cons (h_ret (hp_t1 call_tuple_of s_tuple (by rfl) T.b_tuple bb_tuple (p_a (h_lc (E' := E0) (own := [(("one" : Str), 4)]) (by rfl) sc_ears.nd (i_r1 (by rfl) T.b_range (hp_b1 call_len_seq s_len (by rfl) T.b_len bb_len (p_a (hp_ix o_ix s_ix (by intro _ _; rfl) (p_n 0) (p_a h_int))))) (blk_ok (by kernel_rfl)) (fun _ _ _ _ _ => (g_name (i := 4) sc_ears.nd (by rfl) (by first | exact Or.inl rfl | exact Or.inr rfl))) (fun _ _ _ _ _ => (ht_one (ht_val (hc_call (k := 2) c_heard (hr.mono (by decide)) takes0 (by rfl) (ha_cons (h_var 0) (ha_cons (h_var 4) (ha_cons (h_var 1) (ha_cons (h_var 2) (ha_cons (h_var 3) ha_nil))))) (el_cons (el_cons (el_cons (el_cons (el_cons el_nil))))))))) (fun _ _ _ _ _ => (h_var 4)) (tg_n 4)))))
    hs_nil)
theorem sc_hearers : FnScope [("crowd" : Str), ("teller" : Str), ("beat" : Str), ("late" : Str)] [("crowd" : Str), ("teller" : Str), ("beat" : Str), ("late" : Str)] (defScope t_hearers) := ⟨rfl, rfl, rfl, by decide +kernel, rfl, by decide +kernel, by decide +kernel⟩
theorem k_hearers {f : Addr} {fd : FuncData} {dvs : List V} {kws : List (Str × V)} (T : Txt K mg) (c_look_crowd : Cal P W K mg base C ("look_crowd" : Str) 4 1 f_look_crowd) (c_look_one : Cal P W K mg base C ("look_one" : Str) 2 2 f_look_one) (c_look_beat : Cal P W K mg base C ("look_beat" : Str) 2 1 f_look_beat) (c_look_lates : Cal P W K mg base C ("look_lates" : Str) 3 2 f_look_lates) (c_ears : Cal P W K mg base C ("ears" : Str) 3 4 f_ears) (F : FnP K ("hearers" : Str) t_hearers dvs kws f fd) : FnOk P W K mg base (L2.CX P W) 5 f fd [("crowd" : Str), ("teller" : Str), ("beat" : Str), ("late" : Str)] (spF K C f_hearers 4) :=
  fn_okD (k := 4) F sc_hearers fun cdv A outer s H EX hr =>
    (hs_cons (h_ex (hc_call (k := 4) c_look_crowd (hr.mono (by decide)) (by exact takes_of rfl rfl rfl rfl) (by rfl) (ha_cons (h_var 0) ha_nil) (el_cons el_nil)))
    (hs_cons (h_ex (hc_call (k := 2) c_look_one (hr.mono (by decide)) (by exact takes_of rfl rfl rfl rfl) (by rfl) (ha_cons (h_var 0) (ha_cons (h_var 1) ha_nil)) (el_cons (el_cons el_nil))))
    (hs_cons (h_ex (hc_call (k := 2) c_look_beat (hr.mono (by decide)) (by exact takes_of rfl rfl rfl rfl) (by rfl) (ha_cons (h_var 2) ha_nil) (el_cons el_nil)))
    (hs_cons (h_ex (hc_call (k := 3) c_look_lates (hr.mono (by decide)) (by exact takes_of rfl rfl rfl rfl) (by rfl) (ha_cons (h_var 0) (ha_cons (h_var 3) ha_nil)) (el_cons (el_cons el_nil))))
    (hs_cons (h_ret (hc_call (k := 3) c_ears (hr.mono (by decide)) (by exact takes_of rfl rfl rfl rfl) (by rfl) (ha_cons (h_var 0) (ha_cons (h_var 1) (ha_cons (h_var 2) (ha_cons (h_var 3) ha_nil)))) (el_cons (el_cons (el_cons (el_cons el_nil))))))
    hs_nil)))))
theorem sc_may_tell : FnScope [("crowd" : Str), ("teller" : Str), ("beat" : Str), ("late" : Str), ("one" : Str)] [("crowd" : Str), ("teller" : Str), ("beat" : Str), ("late" : Str)] (defScope t_may_tell) := ⟨rfl, rfl, rfl, by decide +kernel, rfl, by decide +kernel, by decide +kernel⟩
theorem k_may_tell {f : Addr} {fd : FuncData} {dvs : List V} {kws : List (Str × V)} (T : Txt K mg) (c_ears : Cal P W K mg base C ("ears" : Str) 3 4 f_ears) (F : FnP K ("may_tell" : Str) t_may_tell dvs kws f fd) : FnOk P W K mg base (L2.CX P W) 4 f fd [("crowd" : Str), ("teller" : Str), ("beat" : Str), ("late" : Str)] (spF K C f_may_tell 4) :=
  fn_okD (k := 3) F sc_may_tell fun cdv A outer s H EX hr =>
    (hs_cons (h_ifS (hpt_cmp (o_in (hu65 hr)) s_in (by rfl) (p_n 1) (p_a (hp_ix o_ix s_ix (by intro _ _; rfl) (p_n 0) (p_a h_int)))) (hs_cons (h_ret h_bl)
    hs_nil) hs_nil)
    (hs_cons (h_ret (h_not (hp_b1 (cr_any (by rfl)) s_any (by rfl) T.b_any bb_any (p_a (h_lc (E' := E0) (own := [(("one" : Str), 4)]) (by rfl) sc_may_tell.nd (i_p (p_a (hc_call (k := 3) c_ears (hr.mono (by decide)) (by exact takes_of rfl rfl rfl rfl) (by rfl) (ha_cons (h_var 0) (ha_cons (h_var 1) (ha_cons (h_var 2) (ha_cons (h_var 3) ha_nil)))) (el_cons (el_cons (el_cons (el_cons el_nil))))))) (blk_ok (by kernel_rfl)) (fun _ _ _ _ _ => (g_name (i := 4) sc_may_tell.nd (by rfl) (by first | exact Or.inl rfl | exact Or.inr rfl))) (fun _ _ _ _ _ => ht_none) (fun _ _ _ _ _ => (hp_cmp (o_in (hu65 hr)) s_in (by rfl) (p_n 4) (p_a (hp_ix o_ix s_ix (by intro _ _; rfl) (p_n 0) (p_a h_int))))) (tg_n 4))))))
    hs_nil))
theorem sc_is_let : FnScope [("crowd" : Str), ("teller" : Str), ("beat" : Str), ("late" : Str)] [("crowd" : Str), ("teller" : Str), ("beat" : Str), ("late" : Str)] (defScope t_is_let) := ⟨rfl, rfl, rfl, by decide +kernel, rfl, by decide +kernel, by decide +kernel⟩
theorem k_is_let {f : Addr} {fd : FuncData} {dvs : List V} {kws : List (Str × V)} (T : Txt K mg) (c_look_crowd : Cal P W K mg base C ("look_crowd" : Str) 4 1 f_look_crowd) (c_look_one : Cal P W K mg base C ("look_one" : Str) 2 2 f_look_one) (c_look_beat : Cal P W K mg base C ("look_beat" : Str) 2 1 f_look_beat) (c_look_lates : Cal P W K mg base C ("look_lates" : Str) 3 2 f_look_lates) (c_may_tell : Cal P W K mg base C ("may_tell" : Str) 4 4 f_may_tell) (F : FnP K ("is_let" : Str) t_is_let dvs kws f fd) : FnOk P W K mg base (L2.CX P W) 5 f fd [("crowd" : Str), ("teller" : Str), ("beat" : Str), ("late" : Str)] (spF K C f_is_let 4) :=
  fn_okD (k := 4) F sc_is_let fun cdv A outer s H EX hr =>
    (hs_cons (h_ex (hc_call (k := 4) c_look_crowd (hr.mono (by decide)) (by exact takes_of rfl rfl rfl rfl) (by rfl) (ha_cons (h_var 0) ha_nil) (el_cons el_nil)))
    (hs_cons (h_ex (hc_call (k := 2) c_look_one (hr.mono (by decide)) (by exact takes_of rfl rfl rfl rfl) (by rfl) (ha_cons (h_var 0) (ha_cons (h_var 1) ha_nil)) (el_cons (el_cons el_nil))))
    (hs_cons (h_ex (hc_call (k := 2) c_look_beat (hr.mono (by decide)) (by exact takes_of rfl rfl rfl rfl) (by rfl) (ha_cons (h_var 2) ha_nil) (el_cons el_nil)))
    (hs_cons (h_ex (hc_call (k := 3) c_look_lates (hr.mono (by decide)) (by exact takes_of rfl rfl rfl rfl) (by rfl) (ha_cons (h_var 0) (ha_cons (h_var 3) ha_nil)) (el_cons (el_cons el_nil))))
    (hs_cons (h_ret (hc_call (k := 4) c_may_tell (hr.mono (by decide)) (by exact takes_of rfl rfl rfl rfl) (by rfl) (ha_cons (h_var 0) (ha_cons (h_var 1) (ha_cons (h_var 2) (ha_cons (h_var 3) ha_nil)))) (el_cons (el_cons (el_cons (el_cons el_nil))))))
    hs_nil)))))
theorem sc_common : FnScope [("one" : Str), ("other" : Str)] [("one" : Str), ("other" : Str)] (defScope t_common) := ⟨rfl, rfl, rfl, by decide +kernel, rfl, by decide +kernel, by decide +kernel⟩
theorem k_common {f : Addr} {fd : FuncData} {dvs : List V} {kws : List (Str × V)} (T : Txt K mg)  (F : FnP K ("common" : Str) t_common dvs kws f fd) : FnOk P W K mg base (L2.CX P W) 1 f fd [("one" : Str), ("other" : Str)] (spF K C f_common 2) :=
  fn_okD (k := 0) F sc_common fun cdv A outer s H EX hr =>
    (hs_cons (h_while (by exact passes_of rfl) (hpt_cmp (op_neD (hu64 hr)) s_neK (nomark _) (p_n 1) (p_a h_int)) (hs_cons (h_par (i := 0) (j := 1) (by rfl) sc_common.nd (by rfl) (by rfl) (by decide) (by rfl) (by rfl) (ha_cons (h_var 1) (ha_cons (hp_op2 op_mod s_mod (p_n 0) (p_n 1)) ha_nil)))
    hs_nil))
    (hs_cons (h_ret (h_var 0))
    hs_nil))
theorem sc_round_of : FnScope [("crowds" : Str), ("found" : Str), ("crowd" : Str), ("row" : Str)] [("crowds" : Str)] (defScope t_round_of) := ⟨rfl, rfl, rfl, by decide +kernel, rfl, by decide +kernel, by decide +kernel⟩
theorem k_round_of {f : Addr} {fd : FuncData} {dvs : List V} {kws : List (Str × V)} (T : Txt K mg) (c_common : Cal P W K mg base C ("common" : Str) 1 2 f_common) (F : FnP K ("round_of" : Str) t_round_of dvs kws f fd) : FnOk P W K mg base (L2.CX P W) 2 f fd [("crowds" : Str)] (spF K C f_round_of 1) :=
  fn_okD (k := 1) F sc_round_of fun cdv A outer s H EX hr =>
    (hs_cons (h_set (i := 1) sc_round_of.nd (by rfl) (by first | exact Or.inl rfl | exact Or.inr rfl) h_int)
    (hs_cons (h_for (by exact passes_of rfl) (by rfl) (i_p (p_n 0)) (g_name (i := 2) sc_round_of.nd (by rfl) (by first | exact Or.inl rfl | exact Or.inr rfl)) (hs_cons (h_for (by exact passes_of rfl) (by rfl) (i_p (p_a (hp_ix o_ix s_ix (by intro _ _; rfl) (p_n 2) (p_a h_int)))) (g_name (i := 3) sc_round_of.nd (by rfl) (by first | exact Or.inl rfl | exact Or.inr rfl)) (hs_cons (h_set (i := 1) sc_round_of.nd (by rfl) (by first | exact Or.inl rfl | exact Or.inr rfl) (hp_op2 op_fdiv s_div (p_a (hp_op2 o_mul s_mul (p_n 1) (p_a (hp_b1 call_len_seq s_len (by rfl) T.b_len bb_len (p_n 3))))) (p_a (hc_call (k := 1) c_common (hr.mono (by decide)) (by exact takes_of rfl rfl rfl rfl) (by rfl) (ha_cons (h_var 1) (ha_cons (hp_b1 call_len_seq s_len (by rfl) T.b_len bb_len (p_n 3)) ha_nil)) (el_cons (el_cons el_nil))))))
    hs_nil))
    hs_nil))
    (hs_cons (h_ret (h_var 1))
    hs_nil)))
theorem sc_joint_round : FnScope [("crowd" : Str)] [("crowd" : Str)] (defScope t_joint_round) := ⟨rfl, rfl, rfl, by decide +kernel, rfl, by decide +kernel, by decide +kernel⟩
theorem k_joint_round {f : Addr} {fd : FuncData} {dvs : List V} {kws : List (Str × V)} (T : Txt K mg) (c_look_crowd : Cal P W K mg base C ("look_crowd" : Str) 4 1 f_look_crowd) (c_round_of : Cal P W K mg base C ("round_of" : Str) 2 1 f_round_of) (F : FnP K ("joint_round" : Str) t_joint_round dvs kws f fd) : FnOk P W K mg base (L2.CX P W) 5 f fd [("crowd" : Str)] (spF K C f_joint_round 1) :=
  fn_okD (k := 4) F sc_joint_round fun cdv A outer s H EX hr =>
    (hs_cons (h_ex (hc_call (k := 4) c_look_crowd (hr.mono (by decide)) (by exact takes_of rfl rfl rfl rfl) (by rfl) (ha_cons (h_var 0) ha_nil) (el_cons el_nil)))
    (hs_cons (h_ret (hc_call (k := 2) c_round_of (hr.mono (by decide)) (by exact takes_of rfl rfl rfl rfl) (by rfl) (ha_cons (h_lst (ha_cons (h_var 0) ha_nil)) ha_nil) (el_cons el_nil)))
    hs_nil))
theorem sc_law_town : FnScope [("_law_script" : Str)] [("_law_script" : Str)] (defScope t_law_town) := ⟨rfl, rfl, rfl, by decide +kernel, rfl, by decide +kernel, by decide +kernel⟩
theorem k_law_town {f : Addr} {fd : FuncData} {dvs : List V} {kws : List (Str × V)} (T : Txt K mg)  (F : FnP K ("_law_town" : Str) t_law_town dvs kws f fd) : FnOk P W K mg base (L2.CX P W) 1 f fd [("_law_script" : Str)] (spF K C f_law_town 1) :=
  fn_okD (k := 0) F sc_law_town fun cdv A outer s H EX hr =>
    (hs_cons (h_ret (h_box (h_lstN (ha_cons (h_box (h_ifN (hpt_cmp (op_neD (hu64 hr)) s_neK (nomark _) (p_n 0) (p_a (h_lst ha_nil))) (h_listN (by rfl) T.b_list bb_list (p_n 0)) (h_lstN (ha_cons h_int ha_nil)))) (ha_cons h_int ha_nil)))))
    hs_nil)
theorem sc_law_draw : FnScope [("_law_town_here" : Str), ("_law_count" : Str), ("_law_numbers" : Str), ("_law_at" : Str), ("_law_cell" : Str), ("_law_mixed" : Str)] [("_law_town_here" : Str), ("_law_count" : Str)] (defScope t_law_draw) := ⟨rfl, rfl, rfl, by decide +kernel, rfl, by decide +kernel, by decide +kernel⟩
theorem k_law_draw {f : Addr} {fd : FuncData} {dvs : List V} {kws : List (Str × V)} (T : Txt K mg)  (F : FnP K ("_law_draw" : Str) t_law_draw dvs kws f fd) : FnOk P W K mg base (L2.CX P W) 1 f fd [("_law_town_here" : Str), ("_law_count" : Str)] (spF K C f_law_draw 2) :=
  fn_okD (k := 0) F sc_law_draw fun cdv A outer s H EX hr =>
    (hs_cons (h_set (i := 2) sc_law_draw.nd (by rfl) (by first | exact Or.inl rfl | exact Or.inr rfl) (hp_ix o_ix s_ix (by intro _ _; rfl) (p_n 0) (p_a h_int)))
    (hs_cons (h_setC (hp_op2 o_add s_add (p_a (hp_ix o_ix s_ix (by intro _ _; rfl) (p_n 0) (p_a h_int))) (p_a h_int)) (h_var 0) h_int)
    (hs_cons (h_set (i := 3) sc_law_draw.nd (by rfl) (by first | exact Or.inl rfl | exact Or.inr rfl) (hp_op2 op_mod s_mod (p_a (hp_ix o_ix s_ix (by intro _ _; rfl) (p_n 0) (p_a h_int))) (p_a (hp_b1 call_len_seq s_len (by rfl) T.b_len bb_len (p_n 2)))))
    (hs_cons (h_set (i := 4) sc_law_draw.nd (by rfl) (by first | exact Or.inl rfl | exact Or.inr rfl) (hp_ix o_ix s_ix (by intro _ _; rfl) (p_n 2) (p_n 3)))
    (hs_cons (h_ifS (hpt_cmp op_ge s_ge (nomark _) (p_n 4) (p_a h_int)) (hs_cons (h_setC (hp_op2 op_fdiv s_div (p_n 4) (p_n 1)) (h_var 2) (h_var 3))
    (hs_cons (h_ret (hp_op2 op_mod s_mod (p_n 4) (p_n 1)))
    hs_nil)) hs_nil)
    (hs_cons (h_set (i := 5) sc_law_draw.nd (by rfl) (by first | exact Or.inl rfl | exact Or.inr rfl) (hp_op2 op_mod s_mod (p_a (hp_op2 o_add s_add (p_n 4) (p_a (hp_op2 o_mul s_mul (p_a h_int) (p_a (hp_ix o_ix s_ix (by intro _ _; rfl) (p_n 0) (p_a h_int))))))) (p_a h_int)))
    (hs_cons (h_set (i := 5) sc_law_draw.nd (by rfl) (by first | exact Or.inl rfl | exact Or.inr rfl) (hp_op2 op_mod s_mod (p_a (hp_op2 op_pow s_pow (p_n 5) (p_a h_int))) (p_a h_int)))
    (hs_cons (h_ret (hp_op2 op_mod s_mod (p_a (hp_op2 op_fdiv s_div (p_a (hp_op2 op_mod s_mod (p_a (hp_op2 o_add s_add (p_a (hp_op2 o_mul s_mul (p_a (hp_op2 op_fdiv s_div (p_n 5) (p_a h_int))) (p_a h_int))) (p_n 5))) (p_a h_int))) (p_a h_int))) (p_n 1)))
    hs_nil))))))))
theorem sc_law_pick : FnScope [("_law_town_here" : Str), ("_law_some_here" : Str)] [("_law_town_here" : Str), ("_law_some_here" : Str)] (defScope t_law_pick) := ⟨rfl, rfl, rfl, by decide +kernel, rfl, by decide +kernel, by decide +kernel⟩
theorem k_law_pick {f : Addr} {fd : FuncData} {dvs : List V} {kws : List (Str × V)} (T : Txt K mg) (c_law_draw : Cal P W K mg base C ("_law_draw" : Str) 1 2 f_law_draw) (F : FnP K ("_law_pick" : Str) t_law_pick dvs kws f fd) : FnOk P W K mg base (L2.CX P W) 2 f fd [("_law_town_here" : Str), ("_law_some_here" : Str)] (spF K C f_law_pick 2) :=
  fn_okD (k := 1) F sc_law_pick fun cdv A outer s H EX hr =>
    (hs_cons (h_ret (hp_ix o_ix s_ix (by intro _ _; rfl) (p_n 1) (p_a (hc_call (k := 1) c_law_draw (hr.mono (by decide)) (by exact takes_of rfl rfl rfl rfl) (by rfl) (ha_cons (h_var 0) (ha_cons (hp_b1 call_len_seq s_len (by rfl) T.b_len bb_len (p_n 1)) ha_nil)) (el_cons (el_cons el_nil))))))
    hs_nil)
theorem sc_law_is : FnScope [("_law_told" : Str), ("_law_due" : Str)] [("_law_told" : Str), ("_law_due" : Str)] (defScope t_law_is) := ⟨rfl, rfl, rfl, by decide +kernel, rfl, by decide +kernel, by decide +kernel⟩
theorem k_law_is {f : Addr} {fd : FuncData} {dvs : List V} {kws : List (Str × V)} (T : Txt K mg)  (F : FnP K ("_law_is" : Str) t_law_is dvs kws f fd) : FnOk P W K mg base (L2.CX P W) 1 f fd [("_law_told" : Str), ("_law_due" : Str)] (spF K C f_law_is 2) :=
  fn_okD (k := 0) F sc_law_is fun cdv A outer s H EX hr =>
    (hs_cons (h_ret (h_and (h_isi .bool (by rfl) T.b_isinstance (by rfl) T.b_bool bb_bool (p_n 0)) (h_one (hp_cmp (op_eqD (hu64 hr)) s_eq (nomark _) (p_n 0) (p_n 1)))))
    hs_nil)
theorem sc_law_meetings : FnScope [("_law_town_here" : Str), ("_law_count" : Str), ("_law_long_of" : Str), ("_law_size_here" : Str), ("_law_rows" : Str), ("_law_line_like" : Str), ("_law_beat" : Str), ("_law_barred_ones" : Str), ("_law_left" : Str), ("_law_spots" : Str), ("_law_k" : Str), ("_law_x" : Str), ("_law_y" : Str), ("_law_px" : Str), ("_law_py" : Str), ("_law_way" : Str), ("_law_one" : Str), ("_law_row" : Str)] [("_law_town_here" : Str), ("_law_count" : Str), ("_law_long_of" : Str)] (defScope t_law_meetings) := ⟨rfl, rfl, rfl, by decide +kernel, rfl, by decide +kernel, by decide +kernel⟩
theorem k_law_meetings {f : Addr} {fd : FuncData} {dvs : List V} {kws : List (Str × V)} (T : Txt K mg) (c_law_draw : Cal P W K mg base C ("_law_draw" : Str) 1 2 f_law_draw) (c_law_pick : Cal P W K mg base C ("_law_pick" : Str) 2 2 f_law_pick) (F : FnP K ("_law_meetings" : Str) t_law_meetings dvs kws f fd) : FnOk P W K mg base (L2.CX P W) 3 f fd [("_law_town_here" : Str), ("_law_count" : Str), ("_law_long_of" : Str)] (spF K C f_law_meetings 3) :=
  fn_okD (k := 2) F sc_law_meetings fun cdv A outer s H EX hr =>
    (hs_cons (h_set (i := 3) sc_law_meetings.nd (by rfl) (by first | exact Or.inl rfl | exact Or.inr rfl) (hp_op2 o_add s_add (p_a h_int) (p_a (hc_call (k := 1) c_law_draw (hr.mono (by decide)) (by exact takes_of rfl rfl rfl rfl) (by rfl) (ha_cons (h_var 0) (ha_cons (h_var 2) ha_nil)) (el_cons (el_cons el_nil))))))
    (hs_cons (h_ownLc (E' := E0) (i := 4) (own := [(("_law_k" : Str), 10)]) (by rfl) sc_law_meetings.nd (by rfl) (by rfl) (by kernel_rfl) (i_r1 (by rfl) T.b_range (h_var 1)) (blk_ok (by kernel_rfl)) (fun _ _ _ _ _ => (g_name (i := 10) sc_law_meetings.nd (by rfl) (by first | exact Or.inl rfl | exact Or.inr rfl))) (fun _ _ _ _ _ => ht_none) (fun _ _ _ _ _ => (h_box (h_lstN ha_nil))) (tg_n 10))
    (h_fzS 4 (hs_cons (h_set (i := 5) sc_law_meetings.nd (by rfl) (by first | exact Or.inl rfl | exact Or.inr rfl) (hp_cmp op_gt s_gt (nomark _) (p_a (hc_call (k := 1) c_law_draw (hr.mono (by decide)) (by exact takes_of rfl rfl rfl rfl) (by rfl) (ha_cons (h_var 0) (ha_cons h_int ha_nil)) (el_cons (el_cons el_nil)))) (p_a h_int)))
    (hs_cons (h_for (by exact passes_of rfl) (by rfl) (i_r1 (by rfl) T.b_range (h_var 3)) (g_name (i := 6) sc_law_meetings.nd (by rfl) (by first | exact Or.inl rfl | exact Or.inr rfl)) (hs_cons (h_own (i := 8) sc_law_meetings.nd (by rfl) (by first | exact Or.inl rfl | exact Or.inr rfl) (h_lrN (by rfl) (by rfl) T.b_list (by rfl) T.b_range (h_var 1)))
    (hs_cons (h_own (i := 9) sc_law_meetings.nd (by rfl) (by first | exact Or.inl rfl | exact Or.inr rfl) (h_lstN (ha_cons (hp_op2 op_sub s_sub (p_a h_int) (p_a h_int)) (ha_cons (hp_op2 op_sub s_sub (p_a h_int) (p_a h_int)) (ha_cons h_int (ha_cons (hp_op2 op_sub s_sub (p_a (hp_op2 o_add s_add (p_a (hp_op2 op_sub s_sub (p_a h_int) (p_a h_int))) (p_a (hp_op2 o_mul s_mul (p_a h_int) (p_a h_int))))) (p_a h_int)) ha_nil))))))
    (hs_cons (h_while (by exact passes_of rfl) (hpt_cmp (op_neD (hu64 hr)) s_neK (nomark _) (p_n 8) (p_a (h_lst ha_nil))) (hs_cons (h_popIf (t := 11) (i := 9) sc_law_meetings.nd (by rfl) (by first | exact Or.inl rfl | exact Or.inr rfl) (by rfl) (by first | exact Or.inl rfl | exact Or.inr (Or.inl rfl) | exact Or.inr (Or.inr rfl)) (hpt_cmp op_gt s_gt (nomark _) (p_a (hp_b1 call_len_seq s_len (by rfl) T.b_len bb_len (p_n 9))) (p_a h_int)) h_int h_int)
    (hs_cons (h_set (i := 12) sc_law_meetings.nd (by rfl) (by first | exact Or.inl rfl | exact Or.inr rfl) (h_if (hpt_cmp op_gt s_gt (nomark _) (p_a (hp_b1 call_len_seq s_len (by rfl) T.b_len bb_len (p_n 9))) (p_a h_int)) (hp_op2 o_mul s_mul (p_a h_int) (p_a (hp_op2 op_mod s_mod (p_a (hp_b1 call_len_seq s_len (by rfl) T.b_len bb_len (p_n 9))) (p_a h_int)))) h_int))
    (hs_cons (h_for (by exact passes_of rfl) (by rfl) (i_p (p_a (h_cut (p_a (h_lst (ha_cons (h_tup (ha_cons (h_var 11) (ha_cons (h_var 12) (ha_cons h_int ha_nil)))) (ha_cons (h_tup (ha_cons (hp_op2 o_add s_add (p_n 11) (p_a h_int)) (ha_cons (h_var 12) (ha_cons h_int ha_nil)))) (ha_cons (h_tup (ha_cons (h_var 11) (ha_cons (hp_op2 o_add s_add (p_n 12) (p_a h_int)) (ha_cons h_int ha_nil)))) ha_nil))))) ho_none (ho_some (hc_call (k := 2) c_law_pick (hr.mono (by decide)) (by exact takes_of rfl rfl rfl rfl) (by rfl) (ha_cons (h_var 0) (ha_cons (h_if (ht_val (h_var 5)) (h_lst (ha_cons h_int (ha_cons h_int (ha_cons h_int (ha_cons h_int (ha_cons h_int (ha_cons h_int ha_nil))))))) (h_lst (ha_cons h_int (ha_cons h_int (ha_cons h_int (ha_cons h_int (ha_cons h_int (ha_cons h_int ha_nil)))))))) ha_nil)) (el_cons (el_cons el_nil))))))) (g_tup (by rfl) (gs_cons (i := 13) sc_law_meetings.nd (by rfl) (by first | exact Or.inl rfl | exact Or.inr rfl) (gs_cons (i := 14) sc_law_meetings.nd (by rfl) (by first | exact Or.inl rfl | exact Or.inr rfl) (gs_cons (i := 15) sc_law_meetings.nd (by rfl) (by first | exact Or.inl rfl | exact Or.inr rfl) gs_nil)))) (hs_cons (h_ifS (hpt_cmp (op_neD (hu64 hr)) s_neK (nomark _) (p_n 8) (p_a (h_lst ha_nil))) (hs_cons (h_pop (t := 16) (i := 8) sc_law_meetings.nd (by rfl) (by first | exact Or.inl rfl | exact Or.inr rfl) (by rfl) (by first | exact Or.inl rfl | exact Or.inr (Or.inl rfl) | exact Or.inr (Or.inr rfl)) (h_if (ht_val (h_var 5)) h_int (hc_call (k := 1) c_law_draw (hr.mono (by decide)) (by exact takes_of rfl rfl rfl rfl) (by rfl) (ha_cons (h_var 0) (ha_cons (hp_b1 call_len_seq s_len (by rfl) T.b_len bb_len (p_n 8)) ha_nil)) (el_cons (el_cons el_nil)))))
    (hs_cons (h_appC (hp_ix o_ix s_ix (by intro _ _; rfl) (p_n 4) (p_n 16)) (h_tup (ha_cons (hp_b2 (call_min2 (by rfl)) s_min2 (by rfl) T.b_min bb_min (p_n 13) (p_a h_int)) (ha_cons (hp_b2 (call_min2 (by rfl)) s_min2 (by rfl) T.b_min bb_min (p_n 14) (p_a h_int)) (ha_cons (h_if (hpt_cmp op_gt s_gt (nomark _) (p_a (hc_call (k := 1) c_law_draw (hr.mono (by decide)) (by exact takes_of rfl rfl rfl rfl) (by rfl) (ha_cons (h_var 0) (ha_cons h_int ha_nil)) (el_cons (el_cons el_nil)))) (p_a h_int)) (h_var 15) (hc_call (k := 1) c_law_draw (hr.mono (by decide)) (by exact takes_of rfl rfl rfl rfl) (by rfl) (ha_cons (h_var 0) (ha_cons h_int ha_nil)) (el_cons (el_cons el_nil)))) ha_nil)))))
    hs_nil)) hs_nil)
    hs_nil))
    hs_nil))))
    hs_nil))))
    (hs_cons (h_set (i := 7) sc_law_meetings.nd (by rfl) (by first | exact Or.inl rfl | exact Or.inr rfl) (hp_t1 call_tuple_of s_tuple (by rfl) T.b_tuple bb_tuple (p_a (h_lc (E' := E0) (own := [(("_law_k" : Str), 10)]) (by rfl) sc_law_meetings.nd (i_r1 (by rfl) T.b_range (h_var 1)) (blk_ok (by kernel_rfl)) (fun _ _ _ _ _ => (g_name (i := 10) sc_law_meetings.nd (by rfl) (by first | exact Or.inl rfl | exact Or.inr rfl))) (fun _ _ _ _ _ => (ht_one (hpt_cmp (op_eqD (hu64 hr)) s_eq (nomark _) (p_a (hc_call (k := 1) c_law_draw (hr.mono (by decide)) takes0 (by rfl) (ha_cons (h_var 0) (ha_cons h_int ha_nil)) (el_cons (el_cons el_nil)))) (p_a h_int)))) (fun _ _ _ _ _ => (h_var 10)) (tg_n 10)))))
    (hs_cons (h_ret (h_tup (ha_cons (hp_op2 o_add s_add (p_a h_int) (p_a (hc_call (k := 1) c_law_draw (hr.mono (by decide)) (by exact takes_of rfl rfl rfl rfl) (by rfl) (ha_cons (h_var 0) (ha_cons h_int ha_nil)) (el_cons (el_cons el_nil))))) (ha_cons (hp_t1 call_tuple_of s_tuple (by rfl) T.b_tuple bb_tuple (p_a (h_lc (E' := E0) (own := [(("_law_row" : Str), 17)]) (by rfl) sc_law_meetings.nd (i_p (p_n 4)) (blk_ok (by kernel_rfl)) (fun _ _ _ _ _ => (g_name (i := 17) sc_law_meetings.nd (by rfl) (by first | exact Or.inl rfl | exact Or.inr rfl))) (fun _ _ _ _ _ => ht_none) (fun _ _ _ _ _ => (hp_t1 call_tuple_of s_tuple (by rfl) T.b_tuple bb_tuple (p_n 17))) (tg_n 17)))) (ha_cons (h_var 7) ha_nil)))))
    hs_nil)))))))
theorem sc_law_crowd : FnScope [("_law_town_here" : Str), ("_law_count" : Str), ("_law_long_of" : Str), ("_law_rows" : Str), ("_law_k" : Str), ("_law_barred_ones" : Str), ("_law_broad" : Str), ("_law_step" : Str), ("_law_row" : Str), ("_law_j" : Str)] [("_law_town_here" : Str), ("_law_count" : Str), ("_law_long_of" : Str)] (defScope t_law_crowd) := ⟨rfl, rfl, rfl, by decide +kernel, rfl, by decide +kernel, by decide +kernel⟩
theorem k_law_crowd {f : Addr} {fd : FuncData} {dvs : List V} {kws : List (Str × V)} (T : Txt K mg) (c_law_draw : Cal P W K mg base C ("_law_draw" : Str) 1 2 f_law_draw) (c_law_pick : Cal P W K mg base C ("_law_pick" : Str) 2 2 f_law_pick) (c_law_meetings : Cal P W K mg base C ("_law_meetings" : Str) 3 3 f_law_meetings) (F : FnP K ("_law_crowd" : Str) t_law_crowd dvs kws f fd) : FnOk P W K mg base (L2.CX P W) 4 f fd [("_law_town_here" : Str), ("_law_count" : Str), ("_law_long_of" : Str)] (spF K C f_law_crowd 3) :=
  fn_okD (k := 3) F sc_law_crowd fun cdv A outer s H EX hr =>
    (hs_cons (h_ifS (hpt_cmp op_gt s_gt (nomark _) (p_a (hc_call (k := 1) c_law_draw (hr.mono (by decide)) (by exact takes_of rfl rfl rfl rfl) (by rfl) (ha_cons (h_var 0) (ha_cons h_int ha_nil)) (el_cons (el_cons el_nil)))) (p_a h_int)) (hs_cons (h_ret (hc_call (k := 3) c_law_meetings (hr.mono (by decide)) (by exact takes_of rfl rfl rfl rfl) (by rfl) (ha_cons (h_var 0) (ha_cons (h_var 1) (ha_cons (h_var 2) ha_nil))) (el_cons (el_cons (el_cons el_nil)))))
    hs_nil) hs_nil)
    (hs_cons (h_own (i := 3) sc_law_crowd.nd (by rfl) (by first | exact Or.inl rfl | exact Or.inr rfl) (h_lstN ha_nil))
    (hs_cons (h_put (hc_call (k := 2) c_law_pick (hr.mono (by decide)) (by exact takes_of rfl rfl rfl rfl) (by rfl) (ha_cons (h_var 0) (ha_cons (h_lst (ha_cons (h_tup (ha_cons h_int (ha_cons h_int ha_nil))) (ha_cons (h_tup (ha_cons h_int (ha_cons h_int ha_nil))) (ha_cons (h_tup (ha_cons h_int (ha_cons h_int ha_nil))) (ha_cons (h_tup (ha_cons h_int (ha_cons h_int ha_nil))) ha_nil))))) ha_nil)) (el_cons (el_cons el_nil))) (g_tup (by rfl) (gs_cons (i := 6) sc_law_crowd.nd (by rfl) (by first | exact Or.inl rfl | exact Or.inr rfl) (gs_cons (i := 7) sc_law_crowd.nd (by rfl) (by first | exact Or.inl rfl | exact Or.inr rfl) gs_nil))))
    (hs_cons (h_for (by exact passes_of rfl) (by rfl) (i_r1 (by rfl) T.b_range (h_var 1)) (g_name (i := 4) sc_law_crowd.nd (by rfl) (by first | exact Or.inl rfl | exact Or.inr rfl)) (hs_cons (h_own (i := 8) sc_law_crowd.nd (by rfl) (by first | exact Or.inl rfl | exact Or.inr rfl) (h_lstN ha_nil))
    (hs_cons (h_for (by exact passes_of rfl) (by rfl) (i_r1 (by rfl) T.b_range (hp_op2 o_add s_add (p_a h_int) (p_a (hc_call (k := 1) c_law_draw (hr.mono (by decide)) (by exact takes_of rfl rfl rfl rfl) (by rfl) (ha_cons (h_var 0) (ha_cons (h_var 2) ha_nil)) (el_cons (el_cons el_nil)))))) (g_name (i := 9) sc_law_crowd.nd (by rfl) (by first | exact Or.inl rfl | exact Or.inr rfl)) (hs_cons (h_app (i := 8) (by rfl) (by first | exact Or.inl rfl | exact Or.inr (Or.inl rfl) | exact Or.inr (Or.inr rfl)) (h_tup (ha_cons (hp_op2 o_add s_add (p_a (hp_op2 o_mul s_mul (p_n 7) (p_n 4))) (p_a (hc_call (k := 1) c_law_draw (hr.mono (by decide)) (by exact takes_of rfl rfl rfl rfl) (by rfl) (ha_cons (h_var 0) (ha_cons (h_var 6) ha_nil)) (el_cons (el_cons el_nil))))) (ha_cons (hc_call (k := 1) c_law_draw (hr.mono (by decide)) (by exact takes_of rfl rfl rfl rfl) (by rfl) (ha_cons (h_var 0) (ha_cons h_int ha_nil)) (el_cons (el_cons el_nil))) (ha_cons (hc_call (k := 1) c_law_draw (hr.mono (by decide)) (by exact takes_of rfl rfl rfl rfl) (by rfl) (ha_cons (h_var 0) (ha_cons h_int ha_nil)) (el_cons (el_cons el_nil))) ha_nil)))))
    hs_nil))
    (hs_cons (h_app (i := 3) (by rfl) (by first | exact Or.inl rfl | exact Or.inr (Or.inl rfl) | exact Or.inr (Or.inr rfl)) (hp_t1 call_tuple_of s_tuple (by rfl) T.b_tuple bb_tuple (p_n 8)))
    hs_nil))))
    (hs_cons (h_set (i := 5) sc_law_crowd.nd (by rfl) (by first | exact Or.inl rfl | exact Or.inr rfl) (hp_t1 call_tuple_of s_tuple (by rfl) T.b_tuple bb_tuple (p_a (h_lc (E' := E0) (own := [(("_law_k" : Str), 4)]) (by rfl) sc_law_crowd.nd (i_r1 (by rfl) T.b_range (h_var 1)) (blk_ok (by kernel_rfl)) (fun _ _ _ _ _ => (g_name (i := 4) sc_law_crowd.nd (by rfl) (by first | exact Or.inl rfl | exact Or.inr rfl))) (fun _ _ _ _ _ => (ht_one (hpt_cmp (op_eqD (hu64 hr)) s_eq (nomark _) (p_a (hc_call (k := 1) c_law_draw (hr.mono (by decide)) takes0 (by rfl) (ha_cons (h_var 0) (ha_cons h_int ha_nil)) (el_cons (el_cons el_nil)))) (p_a h_int)))) (fun _ _ _ _ _ => (h_var 4)) (tg_n 4)))))
    (hs_cons (h_ret (h_tup (ha_cons (hp_op2 o_add s_add (p_a h_int) (p_a (hp_op2 op_fdiv s_div (p_a (hc_call (k := 1) c_law_draw (hr.mono (by decide)) (by exact takes_of rfl rfl rfl rfl) (by rfl) (ha_cons (h_var 0) (ha_cons h_int ha_nil)) (el_cons (el_cons el_nil)))) (p_a h_int)))) (ha_cons (hp_t1 call_tuple_of s_tuple (by rfl) T.b_tuple bb_tuple (p_n 3)) (ha_cons (h_var 5) ha_nil)))))
    hs_nil))))))
theorem sc_law_stand : FnScope [("_law_crowd_here" : Str), ("_law_one" : Str), ("_law_beat" : Str), ("_law_behind_of" : Str), ("_law_row" : Str), ("_law_who" : Str), ("_law_since" : Str), ("_law_count" : Str)] [("_law_crowd_here" : Str), ("_law_one" : Str), ("_law_beat" : Str), ("_law_behind_of" : Str)] (defScope t_law_stand) := ⟨rfl, rfl, rfl, by decide +kernel, rfl, by decide +kernel, by decide +kernel⟩
theorem k_law_stand {f : Addr} {fd : FuncData} {dvs : List V} {kws : List (Str × V)} (T : Txt K mg)  (F : FnP K ("_law_stand" : Str) t_law_stand dvs kws f fd) : FnOk P W K mg base (L2.CX P W) 1 f fd [("_law_crowd_here" : Str), ("_law_one" : Str), ("_law_beat" : Str), ("_law_behind_of" : Str)] (spF K C f_law_stand 4) :=
  fn_okD (k := 0) F sc_law_stand fun cdv A outer s H EX hr =>
    (hs_cons (h_set (i := 4) sc_law_stand.nd (by rfl) (by first | exact Or.inl rfl | exact Or.inr rfl) (hp_ix o_ix s_ix (by intro _ _; rfl) (p_a (hp_ix o_ix s_ix (by intro _ _; rfl) (p_n 0) (p_a h_int))) (p_n 1)))
    (hs_cons (h_for (by exact passes_of rfl) (by rfl) (i_p (p_n 3)) (g_tup (by rfl) (gs_cons (i := 5) sc_law_stand.nd (by rfl) (by first | exact Or.inl rfl | exact Or.inr rfl) (gs_cons (i := 6) sc_law_stand.nd (by rfl) (by first | exact Or.inl rfl | exact Or.inr rfl) (gs_cons (i := 7) sc_law_stand.nd (by rfl) (by first | exact Or.inl rfl | exact Or.inr rfl) gs_nil)))) (hs_cons (h_ifS ((hw_and (hpt_cmp (op_eqD (hu64 hr)) s_eq (nomark _) (p_n 5) (p_n 1)) (hw_and1 (hpt_cmp op_ge s_ge (nomark _) (p_n 2) (p_n 6))))).pt (hs_cons (h_ret (hp_ix o_ix s_ix (by intro _ _; rfl) (p_n 4) (p_a (hp_op2 op_mod s_mod (p_a (hp_op2 op_sub s_sub (p_n 2) (p_n 7))) (p_a (hp_b1 call_len_seq s_len (by rfl) T.b_len bb_len (p_n 4)))))))
    hs_nil) hs_nil)
    hs_nil))
    (hs_cons (h_ret (hp_ix o_ix s_ix (by intro _ _; rfl) (p_n 4) (p_a (hp_op2 op_mod s_mod (p_n 2) (p_a (hp_b1 call_len_seq s_len (by rfl) T.b_len bb_len (p_n 4)))))))
    hs_nil)))
theorem sc_law_hears : FnScope [("_law_crowd_here" : Str), ("_law_one" : Str), ("_law_two" : Str), ("_law_beat" : Str), ("_law_behind_of" : Str), ("_law_far" : Str), ("_law_ahead" : Str), ("_law_x" : Str), ("_law_y" : Str), ("_law_way" : Str), ("_law_px" : Str), ("_law_py" : Str), ("_law_turn_of" : Str)] [("_law_crowd_here" : Str), ("_law_one" : Str), ("_law_two" : Str), ("_law_beat" : Str), ("_law_behind_of" : Str)] (defScope t_law_hears) := ⟨rfl, rfl, rfl, by decide +kernel, rfl, by decide +kernel, by decide +kernel⟩
theorem k_law_hears {f : Addr} {fd : FuncData} {dvs : List V} {kws : List (Str × V)} (T : Txt K mg) (c_law_stand : Cal P W K mg base C ("_law_stand" : Str) 1 4 f_law_stand) (F : FnP K ("_law_hears" : Str) t_law_hears dvs kws f fd) : FnOk P W K mg base (L2.CX P W) 2 f fd [("_law_crowd_here" : Str), ("_law_one" : Str), ("_law_two" : Str), ("_law_beat" : Str), ("_law_behind_of" : Str)] (spF K C f_law_hears 5) :=
  fn_okD (k := 1) F sc_law_hears fun cdv A outer s H EX hr =>
    (hs_cons (h_put (hc_call (k := 1) c_law_stand (hr.mono (by decide)) (by exact takes_of rfl rfl rfl rfl) (by rfl) (ha_cons (h_var 0) (ha_cons (h_var 1) (ha_cons (h_var 3) (ha_cons (h_var 4) ha_nil)))) (el_cons (el_cons (el_cons (el_cons el_nil))))) (g_tup (by rfl) (gs_cons (i := 7) sc_law_hears.nd (by rfl) (by first | exact Or.inl rfl | exact Or.inr rfl) (gs_cons (i := 8) sc_law_hears.nd (by rfl) (by first | exact Or.inl rfl | exact Or.inr rfl) (gs_cons (i := 9) sc_law_hears.nd (by rfl) (by first | exact Or.inl rfl | exact Or.inr rfl) gs_nil)))))
    (hs_cons (h_put (hc_call (k := 1) c_law_stand (hr.mono (by decide)) (by exact takes_of rfl rfl rfl rfl) (by rfl) (ha_cons (h_var 0) (ha_cons (h_var 2) (ha_cons (h_var 3) (ha_cons (h_var 4) ha_nil)))) (el_cons (el_cons (el_cons (el_cons el_nil))))) (g_tup (by rfl) (gs_cons (i := 10) sc_law_hears.nd (by rfl) (by first | exact Or.inl rfl | exact Or.inr rfl) (gs_cons (i := 11) sc_law_hears.nd (by rfl) (by first | exact Or.inl rfl | exact Or.inr rfl) (gs_cons (i := 12) sc_law_hears.nd (by rfl) (by first | exact Or.inl rfl | exact Or.inr rfl) gs_nil)))))
    (hs_cons (h_set (i := 5) sc_law_hears.nd (by rfl) (by first | exact Or.inl rfl | exact Or.inr rfl) (hp_op2 o_add s_add (p_a (hp_b2 (call_max2 (by rfl)) s_max2 (by rfl) T.b_max bb_max (p_a (hp_op2 op_sub s_sub (p_n 10) (p_n 7))) (p_a (hp_op2 op_sub s_sub (p_n 7) (p_n 10))))) (p_a (hp_b2 (call_max2 (by rfl)) s_max2 (by rfl) T.b_max bb_max (p_a (hp_op2 op_sub s_sub (p_n 11) (p_n 8))) (p_a (hp_op2 op_sub s_sub (p_n 8) (p_n 11)))))))
    (hs_cons (h_set (i := 6) sc_law_hears.nd (by rfl) (by first | exact Or.inl rfl | exact Or.inr rfl) (hp_ix o_ix s_ix (by intro _ _; rfl) (p_a (h_lst (ha_cons (hp_cmp op_ge s_ge (nomark _) (p_n 10) (p_n 7)) (ha_cons (hp_cmp op_ge s_ge (nomark _) (p_n 11) (p_n 8)) (ha_cons (hp_cmp op_le s_le (nomark _) (p_n 10) (p_n 7)) (ha_cons (hp_cmp op_le s_le (nomark _) (p_n 11) (p_n 8)) ha_nil)))))) (p_n 9)))
    (hs_cons (h_ret (h_and (hp_cmp (op_neD (hu64 hr)) s_neK (nomark _) (p_n 1) (p_n 2)) (h_and (hp_cmp op_le s_le (nomark _) (p_n 5) (p_a (hp_ix o_ix s_ix (by intro _ _; rfl) (p_n 0) (p_a h_int)))) (h_one (h_var 6)))))
    hs_nil)))))
theorem sc_law_ears : FnScope [("_law_crowd_here" : Str), ("_law_teller" : Str), ("_law_beat" : Str), ("_law_behind_of" : Str), ("_law_k" : Str)] [("_law_crowd_here" : Str), ("_law_teller" : Str), ("_law_beat" : Str), ("_law_behind_of" : Str)] (defScope t_law_ears) := ⟨rfl, rfl, rfl, by decide +kernel, rfl, by decide +kernel, by decide +kernel⟩
theorem k_law_ears {f : Addr} {fd : FuncData} {dvs : List V} {kws : List (Str × V)} (T : Txt K mg) (c_law_hears : Cal P W K mg base C ("_law_hears" : Str) 2 5 f_law_hears) (F : FnP K ("_law_ears" : Str) t_law_ears dvs kws f fd) : FnOk P W K mg base (L2.CX P W) 3 f fd [("_law_crowd_here" : Str), ("_law_teller" : Str), ("_law_beat" : Str), ("_law_behind_of" : Str)] (spF K C f_law_ears 4) :=
  fn_okD (k := 2) F sc_law_ears fun cdv A outer s H EX hr =>
    (hs_cons (h_ret (h_lc (E' := E0) (own := [(("_law_k" : Str), 4)]) (by rfl) sc_law_ears.nd (i_r1 (by rfl) T.b_range (hp_b1 call_len_seq s_len (by rfl) T.b_len bb_len (p_a (hp_ix o_ix s_ix (by intro _ _; rfl) (p_n 0) (p_a h_int))))) (blk_ok (by kernel_rfl)) (fun _ _ _ _ _ => (g_name (i := 4) sc_law_ears.nd (by rfl) (by first | exact Or.inl rfl | exact Or.inr rfl))) (fun _ _ _ _ _ => (ht_one (ht_val (hc_call (k := 2) c_law_hears (hr.mono (by decide)) takes0 (by rfl) (ha_cons (h_var 0) (ha_cons (h_var 4) (ha_cons (h_var 1) (ha_cons (h_var 2) (ha_cons (h_var 3) ha_nil))))) (el_cons (el_cons (el_cons (el_cons (el_cons el_nil))))))))) (fun _ _ _ _ _ => (h_var 4)) (tg_n 4)))
    hs_nil)
theorem sc_law_let : FnScope [("_law_crowd_here" : Str), ("_law_teller" : Str), ("_law_beat" : Str), ("_law_behind_of" : Str), ("_law_there" : Str), ("_law_k" : Str)] [("_law_crowd_here" : Str), ("_law_teller" : Str), ("_law_beat" : Str), ("_law_behind_of" : Str)] (defScope t_law_let) := ⟨rfl, rfl, rfl, by decide +kernel, rfl, by decide +kernel, by decide +kernel⟩
theorem k_law_let {f : Addr} {fd : FuncData} {dvs : List V} {kws : List (Str × V)} (T : Txt K mg) (c_law_ears : Cal P W K mg base C ("_law_ears" : Str) 3 4 f_law_ears) (F : FnP K ("_law_let" : Str) t_law_let dvs kws f fd) : FnOk P W K mg base (L2.CX P W) 4 f fd [("_law_crowd_here" : Str), ("_law_teller" : Str), ("_law_beat" : Str), ("_law_behind_of" : Str)] (spF K C f_law_let 4) :=
  fn_okD (k := 3) F sc_law_let fun cdv A outer s H EX hr =>
    (hs_cons (h_set (i := 4) sc_law_let.nd (by rfl) (by first | exact Or.inl rfl | exact Or.inr rfl) (hc_call (k := 3) c_law_ears (hr.mono (by decide)) (by exact takes_of rfl rfl rfl rfl) (by rfl) (ha_cons (h_var 0) (ha_cons (h_var 1) (ha_cons (h_var 2) (ha_cons (h_var 3) ha_nil)))) (el_cons (el_cons (el_cons (el_cons el_nil))))))
    (hs_cons (h_ifS ((hw_or (hpt_cmp (o_in (hu65 hr)) s_in (by rfl) (p_n 1) (p_a (hp_ix o_ix s_ix (by intro _ _; rfl) (p_n 0) (p_a h_int)))) (hw_or1 (hpt_cmp (op_neD (hu64 hr)) s_neK (nomark _) (p_a (h_lc (E' := E0) (own := [(("_law_k" : Str), 5)]) (by rfl) sc_law_let.nd (i_p (p_n 4)) (blk_ok (by kernel_rfl)) (fun _ _ _ _ _ => (g_name (i := 5) sc_law_let.nd (by rfl) (by first | exact Or.inl rfl | exact Or.inr rfl))) (fun _ _ _ _ _ => (ht_one (hpt_cmp (o_in (hu65 hr)) s_in (by rfl) (p_n 5) (p_a (hp_ix o_ix s_ix (by intro _ _; rfl) (p_n 0) (p_a h_int)))))) (fun _ _ _ _ _ => (h_var 5)) (tg_n 5))) (p_a (h_lst ha_nil)))))).pt (hs_cons (h_ret h_non)
    hs_nil) hs_nil)
    (hs_cons (h_ret (h_var 4))
    hs_nil)))
theorem sc_law_size : FnScope [("_law_crowds" : Str), ("_law_lengths" : Str), ("_law_one" : Str), ("_law_size_here" : Str), ("_law_k" : Str), ("_law_row" : Str)] [("_law_crowds" : Str)] (defScope t_law_size) := ⟨rfl, rfl, rfl, by decide +kernel, rfl, by decide +kernel, by decide +kernel⟩
theorem k_law_size {f : Addr} {fd : FuncData} {dvs : List V} {kws : List (Str × V)} (T : Txt K mg)  (F : FnP K ("_law_size" : Str) t_law_size dvs kws f fd) : FnOk P W K mg base (L2.CX P W) 1 f fd [("_law_crowds" : Str)] (spF K C f_law_size 1) :=
  fn_okD (k := 0) F sc_law_size fun cdv A outer s H EX hr =>
    (hs_cons (h_set (i := 1) sc_law_size.nd (by rfl) (by first | exact Or.inl rfl | exact Or.inr rfl) (h_lst ha_nil))
    (hs_cons (h_for (by exact passes_of rfl) (by rfl) (i_p (p_n 0)) (g_name (i := 2) sc_law_size.nd (by rfl) (by first | exact Or.inl rfl | exact Or.inr rfl)) (hs_cons (h_set (i := 1) sc_law_size.nd (by rfl) (by first | exact Or.inl rfl | exact Or.inr rfl) (hp_op2 o_add s_add (p_n 1) (p_a (h_lc (E' := E0) (own := [(("_law_row" : Str), 5)]) (by rfl) sc_law_size.nd (i_p (p_a (hp_ix o_ix s_ix (by intro _ _; rfl) (p_n 2) (p_a h_int)))) (blk_ok (by kernel_rfl)) (fun _ _ _ _ _ => (g_name (i := 5) sc_law_size.nd (by rfl) (by first | exact Or.inl rfl | exact Or.inr rfl))) (fun _ _ _ _ _ => ht_none) (fun _ _ _ _ _ => (hp_b1 call_len_seq s_len (by rfl) T.b_len bb_len (p_n 5))) (tg_n 5)))))
    hs_nil))
    (hs_cons (h_set (i := 3) sc_law_size.nd (by rfl) (by first | exact Or.inl rfl | exact Or.inr rfl) h_int)
    (hs_cons (h_while (by exact passes_of rfl) (hpt_cmp (op_neD (hu64 hr)) s_neK (nomark _) (p_a (h_lc (E' := E0) (own := [(("_law_k" : Str), 4)]) (by rfl) sc_law_size.nd (i_p (p_n 1)) (blk_ok (by kernel_rfl)) (fun _ _ _ _ _ => (g_name (i := 4) sc_law_size.nd (by rfl) (by first | exact Or.inl rfl | exact Or.inr rfl))) (fun _ _ _ _ _ => (ht_one (hpt_cmp (op_neD (hu64 hr)) s_neK (nomark _) (p_a (hp_op2 op_mod s_mod (p_n 3) (p_n 4))) (p_a h_int)))) (fun _ _ _ _ _ => (h_var 4)) (tg_n 4))) (p_a (h_lst ha_nil))) (hs_cons (h_set (i := 3) sc_law_size.nd (by rfl) (by first | exact Or.inl rfl | exact Or.inr rfl) (hp_op2 o_add s_add (p_n 3) (p_a h_int)))
    hs_nil))
    (hs_cons (h_ret (h_var 3))
    hs_nil)))))
theorem sc_law_some : FnScope [("_law_town_here" : Str), ("_law_count" : Str), ("_law_much" : Str), ("_law_k" : Str)] [("_law_town_here" : Str), ("_law_count" : Str), ("_law_much" : Str)] (defScope t_law_some) := ⟨rfl, rfl, rfl, by decide +kernel, rfl, by decide +kernel, by decide +kernel⟩
theorem k_law_some {f : Addr} {fd : FuncData} {dvs : List V} {kws : List (Str × V)} (T : Txt K mg) (c_law_draw : Cal P W K mg base C ("_law_draw" : Str) 1 2 f_law_draw) (F : FnP K ("_law_some" : Str) t_law_some dvs kws f fd) : FnOk P W K mg base (L2.CX P W) 2 f fd [("_law_town_here" : Str), ("_law_count" : Str), ("_law_much" : Str)] (spF K C f_law_some 3) :=
  fn_okD (k := 1) F sc_law_some fun cdv A outer s H EX hr =>
    (hs_cons (h_ret (hp_t1 call_tuple_of s_tuple (by rfl) T.b_tuple bb_tuple (p_a (h_lc (E' := E0) (own := [(("_law_k" : Str), 3)]) (by rfl) sc_law_some.nd (i_r1 (by rfl) T.b_range (h_var 1)) (blk_ok (by kernel_rfl)) (fun _ _ _ _ _ => (g_name (i := 3) sc_law_some.nd (by rfl) (by first | exact Or.inl rfl | exact Or.inr rfl))) (fun _ _ _ _ _ => (ht_one (hpt_cmp (op_eqD (hu64 hr)) s_eq (nomark _) (p_a (hc_call (k := 1) c_law_draw (hr.mono (by decide)) takes0 (by rfl) (ha_cons (h_var 0) (ha_cons (h_var 2) ha_nil)) (el_cons (el_cons el_nil)))) (p_a h_int)))) (fun _ _ _ _ _ => (h_var 3)) (tg_n 3)))))
    hs_nil)
theorem sc_law : FnScope [("_law_script" : Str), ("_law_town_here" : Str), ("_law_count" : Str), ("_law_crowd_here" : Str), ("_law_size_here" : Str), ("_law_behind_of" : Str), ("_law_turn_of" : Str), ("_law_beat" : Str), ("_law_k" : Str), ("_law_there" : Str), ("_law_good" : Str), ("_law_plain_one" : Str)] [("_law_script" : Str)] (defScope t_law) := ⟨rfl, rfl, rfl, by decide +kernel, rfl, by decide +kernel, by decide +kernel⟩
theorem k_law {f : Addr} {fd : FuncData} {dvs : List V} {kws : List (Str × V)} (T : Txt K mg) (c_is_crowd : Cal P W K mg base C ("is_crowd" : Str) 3 1 f_is_crowd) (ck_stand : CalK P W K mg base C ("stand" : Str) 5 3 1 [("late" : Str)] f_stand) (cd_stand : CalD P W K mg base C ("stand" : Str) 5 3 [(.tup [])] f_stand) (ck_hearers : CalK P W K mg base C ("hearers" : Str) 5 3 1 [("late" : Str)] f_hearers) (cd_hearers : CalD P W K mg base C ("hearers" : Str) 5 3 [(.tup [])] f_hearers) (ck_is_let : CalK P W K mg base C ("is_let" : Str) 5 3 1 [("late" : Str)] f_is_let) (cd_is_let : CalD P W K mg base C ("is_let" : Str) 5 3 [(.tup [])] f_is_let) (c_joint_round : Cal P W K mg base C ("joint_round" : Str) 5 1 f_joint_round) (c_law_town : Cal P W K mg base C ("_law_town" : Str) 1 1 f_law_town) (c_law_draw : Cal P W K mg base C ("_law_draw" : Str) 1 2 f_law_draw) (c_law_pick : Cal P W K mg base C ("_law_pick" : Str) 2 2 f_law_pick) (c_law_is : Cal P W K mg base C ("_law_is" : Str) 1 2 f_law_is) (c_law_crowd : Cal P W K mg base C ("_law_crowd" : Str) 4 3 f_law_crowd) (c_law_stand : Cal P W K mg base C ("_law_stand" : Str) 1 4 f_law_stand) (c_law_ears : Cal P W K mg base C ("_law_ears" : Str) 3 4 f_law_ears) (c_law_let : Cal P W K mg base C ("_law_let" : Str) 4 4 f_law_let) (c_law_size : Cal P W K mg base C ("_law_size" : Str) 1 1 f_law_size) (c_law_some : Cal P W K mg base C ("_law_some" : Str) 2 3 f_law_some) (F : FnP K ("law" : Str) t_law dvs kws f fd) : FnOk P W K mg base (L2.CX P W) 6 f fd [("_law_script" : Str)] (spF K C f_law 1) :=
  fn_okD (k := 5) F sc_law fun cdv A outer s H EX hr =>
    (hs_cons (h_set (i := 1) sc_law.nd (by rfl) (by first | exact Or.inl rfl | exact Or.inr rfl) (hc_call (k := 1) c_law_town (hr.mono (by decide)) (by exact takes_of rfl rfl rfl rfl) (by rfl) (ha_cons (h_var 0) ha_nil) (el_cons el_nil)))
    (hs_cons (h_set (i := 2) sc_law.nd (by rfl) (by first | exact Or.inl rfl | exact Or.inr rfl) (hp_op2 o_add s_add (p_a h_int) (p_a (hc_call (k := 1) c_law_draw (hr.mono (by decide)) (by exact takes_of rfl rfl rfl rfl) (by rfl) (ha_cons (h_var 1) (ha_cons h_int ha_nil)) (el_cons (el_cons el_nil))))))
    (hs_cons (h_set (i := 3) sc_law.nd (by rfl) (by first | exact Or.inl rfl | exact Or.inr rfl) (hc_call (k := 4) c_law_crowd (hr.mono (by decide)) (by exact takes_of rfl rfl rfl rfl) (by rfl) (ha_cons (h_var 1) (ha_cons (h_var 2) (ha_cons h_int ha_nil))) (el_cons (el_cons (el_cons el_nil)))))
    (hs_cons (h_set (i := 4) sc_law.nd (by rfl) (by first | exact Or.inl rfl | exact Or.inr rfl) (hc_call (k := 1) c_law_size (hr.mono (by decide)) (by exact takes_of rfl rfl rfl rfl) (by rfl) (ha_cons (h_lst (ha_cons (h_var 3) ha_nil)) ha_nil) (el_cons el_nil)))
    (hs_cons (h_ifS ((hw_or (hpt_cmp o_isnot s_isnot (nomark _) (p_a (hc_call (k := 3) c_is_crowd (hr.mono (by decide)) (by exact takes_of rfl rfl rfl rfl) (by rfl) (ha_cons (h_var 3) ha_nil) (el_cons el_nil))) (p_a h_bl)) (hw_or1 (hpt_cmp (op_neD (hu64 hr)) s_neK (nomark _) (p_a (hc_call (k := 5) c_joint_round (hr.mono (by decide)) (by exact takes_of rfl rfl rfl rfl) (by rfl) (ha_cons (h_var 3) ha_nil) (el_cons el_nil))) (p_n 4))))).pt (hs_cons (h_ret h_bl)
    hs_nil) hs_nil)
    (hs_cons (h_set (i := 5) sc_law.nd (by rfl) (by first | exact Or.inl rfl | exact Or.inr rfl) (hp_t1 call_tuple_of s_tuple (by rfl) T.b_tuple bb_tuple (p_a (h_lc (E' := E0) (own := [(("_law_k" : Str), 8)]) (by rfl) sc_law.nd (i_p (p_a (hc_call (k := 2) c_law_some (hr.mono (by decide)) (by exact takes_of rfl rfl rfl rfl) (by rfl) (ha_cons (h_var 1) (ha_cons (hp_b2 (call_min2 (by rfl)) s_min2 (by rfl) T.b_min bb_min (p_n 2) (p_a h_int)) (ha_cons h_int ha_nil))) (el_cons (el_cons (el_cons el_nil)))))) (blk_ok (by kernel_rfl)) (fun _ _ _ _ _ => (g_name (i := 8) sc_law.nd (by rfl) (by first | exact Or.inl rfl | exact Or.inr rfl))) (fun _ _ _ _ _ => ht_none) (fun _ _ _ _ _ => (h_tup (ha_cons (h_var 8) (ha_cons (hc_call (k := 1) c_law_draw (hr.mono (by decide)) takes0 (by rfl) (ha_cons (h_var 1) (ha_cons h_int ha_nil)) (el_cons (el_cons el_nil))) (ha_cons (hp_op2 o_add s_add (p_a h_int) (p_a (hc_call (k := 1) c_law_draw (hr.mono (by decide)) takes0 (by rfl) (ha_cons (h_var 1) (ha_cons h_int ha_nil)) (el_cons (el_cons el_nil))))) ha_nil))))) (tg_n 8)))))
    (hs_cons (h_for (by exact passes_of rfl) (by rfl) (i_r1 (by rfl) T.b_range h_int) (g_name (i := 6) sc_law.nd (by rfl) (by first | exact Or.inl rfl | exact Or.inr rfl)) (hs_cons (h_set (i := 7) sc_law.nd (by rfl) (by first | exact Or.inl rfl | exact Or.inr rfl) (hc_call (k := 2) c_law_pick (hr.mono (by decide)) (by exact takes_of rfl rfl rfl rfl) (by rfl) (ha_cons (h_var 1) (ha_cons (h_lst (ha_cons (hc_call (k := 1) c_law_draw (hr.mono (by decide)) (by exact takes_of rfl rfl rfl rfl) (by rfl) (ha_cons (h_var 1) (ha_cons h_int ha_nil)) (el_cons (el_cons el_nil))) (ha_cons (hp_op2 op_sub s_sub (p_a h_int) (p_a (hc_call (k := 1) c_law_draw (hr.mono (by decide)) (by exact takes_of rfl rfl rfl rfl) (by rfl) (ha_cons (h_var 1) (ha_cons h_int ha_nil)) (el_cons (el_cons el_nil))))) (ha_cons (hc_call (k := 1) c_law_draw (hr.mono (by decide)) (by exact takes_of rfl rfl rfl rfl) (by rfl) (ha_cons (h_var 1) (ha_cons h_int ha_nil)) (el_cons (el_cons el_nil))) ha_nil)))) ha_nil)) (el_cons (el_cons el_nil))))
    (hs_cons (h_for (by exact passes_of rfl) (by rfl) (i_r1 (by rfl) T.b_range (h_var 2)) (g_name (i := 8) sc_law.nd (by rfl) (by first | exact Or.inl rfl | exact Or.inr rfl)) (hs_cons (h_ifS (hpt_cmp (op_neD (hu64 hr)) s_neK (nomark _) (p_a (hc_callK (k := 5) (ks := [("late" : Str)]) ck_stand (hr.mono (by decide)) (by exact takes_of rfl rfl rfl rfl) (by rfl) (ha_cons (h_var 3) (ha_cons (h_var 8) (ha_cons (h_var 7) ha_nil))) (hk_cons (h_var 5) hk_nil) (el_cons (el_cons (el_cons el_nil))) (el_cons el_nil))) (p_a (hc_call (k := 1) c_law_stand (hr.mono (by decide)) (by exact takes_of rfl rfl rfl rfl) (by rfl) (ha_cons (h_var 3) (ha_cons (h_var 8) (ha_cons (h_var 7) (ha_cons (h_var 5) ha_nil)))) (el_cons (el_cons (el_cons (el_cons el_nil))))))) (hs_cons (h_ret h_bl)
    hs_nil) hs_nil)
    (hs_cons (h_set (i := 9) sc_law.nd (by rfl) (by first | exact Or.inl rfl | exact Or.inr rfl) (hc_call (k := 3) c_law_ears (hr.mono (by decide)) (by exact takes_of rfl rfl rfl rfl) (by rfl) (ha_cons (h_var 3) (ha_cons (h_var 8) (ha_cons (h_var 7) (ha_cons (h_var 5) ha_nil)))) (el_cons (el_cons (el_cons (el_cons el_nil))))))
    (hs_cons (h_ifS (hpt_cmp (op_neD (hu64 hr)) s_neK (nomark _) (p_a (hc_callK (k := 5) (ks := [("late" : Str)]) ck_hearers (hr.mono (by decide)) (by exact takes_of rfl rfl rfl rfl) (by rfl) (ha_cons (h_var 3) (ha_cons (h_var 8) (ha_cons (h_var 7) ha_nil))) (hk_cons (h_var 5) hk_nil) (el_cons (el_cons (el_cons el_nil))) (el_cons el_nil))) (p_a (hp_t1 call_tuple_of s_tuple (by rfl) T.b_tuple bb_tuple (p_n 9)))) (hs_cons (h_ret h_bl)
    hs_nil) hs_nil)
    (hs_cons (h_set (i := 10) sc_law.nd (by rfl) (by first | exact Or.inl rfl | exact Or.inr rfl) (hp_cmp o_isnot s_isnot (nomark _) (p_a (hc_call (k := 4) c_law_let (hr.mono (by decide)) (by exact takes_of rfl rfl rfl rfl) (by rfl) (ha_cons (h_var 3) (ha_cons (h_var 8) (ha_cons (h_var 7) (ha_cons (h_var 5) ha_nil)))) (el_cons (el_cons (el_cons (el_cons el_nil)))))) (p_a h_non)))
    (hs_cons (h_ifS (ht_not (ht_val (hc_call (k := 1) c_law_is (hr.mono (by decide)) (by exact takes_of rfl rfl rfl rfl) (by rfl) (ha_cons (hc_callK (k := 5) (ks := [("late" : Str)]) ck_is_let (hr.mono (by decide)) (by exact takes_of rfl rfl rfl rfl) (by rfl) (ha_cons (h_var 3) (ha_cons (h_var 8) (ha_cons (h_var 7) ha_nil))) (hk_cons (h_var 5) hk_nil) (el_cons (el_cons (el_cons el_nil))) (el_cons el_nil)) (ha_cons (h_var 10) ha_nil)) (el_cons (el_cons el_nil))))) (hs_cons (h_ret h_bl)
    hs_nil) hs_nil)
    (hs_cons (h_set (i := 11) sc_law.nd (by rfl) (by first | exact Or.inl rfl | exact Or.inr rfl) (hc_callD (k := 5) cd_hearers (hr.mono (by decide)) (by exact takes_of rfl rfl rfl rfl) (by rfl) (ha_cons (h_var 3) (ha_cons (h_var 8) (ha_cons (hp_op2 op_mod s_mod (p_n 7) (p_n 4)) ha_nil))) (el_cons (el_cons (el_cons el_nil)))))
    (hs_cons (h_ifS ((hw_or (hpt_cmp (op_neD (hu64 hr)) s_neK (nomark _) (p_n 11) (p_a (hp_t1 call_tuple_of s_tuple (by rfl) T.b_tuple bb_tuple (p_a (hc_call (k := 3) c_law_ears (hr.mono (by decide)) (by exact takes_of rfl rfl rfl rfl) (by rfl) (ha_cons (h_var 3) (ha_cons (h_var 8) (ha_cons (h_var 7) (ha_cons (h_tup ha_nil) ha_nil)))) (el_cons (el_cons (el_cons (el_cons el_nil))))))))) (hw_or1 (hpt_cmp (op_neD (hu64 hr)) s_neK (nomark _) (p_a (hc_callD (k := 5) cd_hearers (hr.mono (by decide)) (by exact takes_of rfl rfl rfl rfl) (by rfl) (ha_cons (h_var 3) (ha_cons (h_var 8) (ha_cons (h_var 7) ha_nil))) (el_cons (el_cons (el_cons el_nil))))) (p_n 11))))).pt (hs_cons (h_ret h_bl)
    hs_nil) hs_nil)
    (hs_cons (h_ifS (hpt_cmp (op_neD (hu64 hr)) s_neK (nomark _) (p_a (hc_callD (k := 5) cd_is_let (hr.mono (by decide)) (by exact takes_of rfl rfl rfl rfl) (by rfl) (ha_cons (h_var 3) (ha_cons (h_var 8) (ha_cons (h_var 7) ha_nil))) (el_cons (el_cons (el_cons el_nil))))) (p_a (hc_callD (k := 5) cd_is_let (hr.mono (by decide)) (by exact takes_of rfl rfl rfl rfl) (by rfl) (ha_cons (h_var 3) (ha_cons (h_var 8) (ha_cons (hp_op2 op_mod s_mod (p_n 7) (p_n 4)) ha_nil))) (el_cons (el_cons (el_cons el_nil)))))) (hs_cons (h_ret h_bl)
    hs_nil) hs_nil)
    hs_nil)))))))))
    hs_nil)))
    (hs_cons (h_ret (hp_cmp (op_eqD (hu64 hr)) s_eq (nomark _) (p_a (hc_callD (k := 5) cd_stand (hr.mono (by decide)) (by exact takes_of rfl rfl rfl rfl) (by rfl) (ha_cons (h_var 3) (ha_cons h_int (ha_cons (h_var 4) ha_nil))) (el_cons (el_cons (el_cons el_nil))))) (p_a (hp_ix o_ix s_ix (by intro _ _; rfl) (p_a (hp_ix o_ix s_ix (by intro _ _; rfl) (p_a (hp_ix o_ix s_ix (by intro _ _; rfl) (p_n 3) (p_a h_int))) (p_a h_int))) (p_a h_int)))))
    hs_nil))))))))
end
/-! ### the head -/
def D_is_whole : He.DefD := ⟨(("is_whole" : Str), none), ("is_whole" : Str), ("is_whole" : Str), defArgs t_is_whole, defBody t_is_whole, defScope t_is_whole, [], []⟩
def D_is_stand : He.DefD := ⟨(("is_stand" : Str), none), ("is_stand" : Str), ("is_stand" : Str), defArgs t_is_stand, defBody t_is_stand, defScope t_is_stand, [], []⟩
def D_is_folk : He.DefD := ⟨(("is_folk" : Str), none), ("is_folk" : Str), ("is_folk" : Str), defArgs t_is_folk, defBody t_is_folk, defScope t_is_folk, [], []⟩
def D_is_crowd : He.DefD := ⟨(("is_crowd" : Str), none), ("is_crowd" : Str), ("is_crowd" : Str), defArgs t_is_crowd, defBody t_is_crowd, defScope t_is_crowd, [], []⟩
def D_look_crowd : He.DefD := ⟨(("look_crowd" : Str), none), ("look_crowd" : Str), ("look_crowd" : Str), defArgs t_look_crowd, defBody t_look_crowd, defScope t_look_crowd, [], []⟩
def D_look_one : He.DefD := ⟨(("look_one" : Str), none), ("look_one" : Str), ("look_one" : Str), defArgs t_look_one, defBody t_look_one, defScope t_look_one, [], []⟩
def D_look_beat : He.DefD := ⟨(("look_beat" : Str), none), ("look_beat" : Str), ("look_beat" : Str), defArgs t_look_beat, defBody t_look_beat, defScope t_look_beat, [], []⟩
def D_is_late : He.DefD := ⟨(("is_late" : Str), none), ("is_late" : Str), ("is_late" : Str), defArgs t_is_late, defBody t_is_late, defScope t_is_late, [], []⟩
def D_look_lates : He.DefD := ⟨(("look_lates" : Str), none), ("look_lates" : Str), ("look_lates" : Str), defArgs t_look_lates, defBody t_look_lates, defScope t_look_lates, [], []⟩
def D_stood : He.DefD := ⟨(("stood" : Str), none), ("stood" : Str), ("stood" : Str), defArgs t_stood, defBody t_stood, defScope t_stood, [], []⟩
def D_stand : He.DefD := ⟨(("stand" : Str), none), ("stand" : Str), ("stand" : Str), defArgs t_stand, defBody t_stand, defScope t_stand, [], [(("late" : Str), .adr (kwA ("stand" : Str) ("late" : Str)))]⟩
def D_heard : He.DefD := ⟨(("heard" : Str), none), ("heard" : Str), ("heard" : Str), defArgs t_heard, defBody t_heard, defScope t_heard, [], []⟩
def D_ears : He.DefD := ⟨(("ears" : Str), none), ("ears" : Str), ("ears" : Str), defArgs t_ears, defBody t_ears, defScope t_ears, [], []⟩
def D_hearers : He.DefD := ⟨(("hearers" : Str), none), ("hearers" : Str), ("hearers" : Str), defArgs t_hearers, defBody t_hearers, defScope t_hearers, [], [(("late" : Str), .adr (kwA ("hearers" : Str) ("late" : Str)))]⟩
def D_may_tell : He.DefD := ⟨(("may_tell" : Str), none), ("may_tell" : Str), ("may_tell" : Str), defArgs t_may_tell, defBody t_may_tell, defScope t_may_tell, [], []⟩
def D_is_let : He.DefD := ⟨(("is_let" : Str), none), ("is_let" : Str), ("is_let" : Str), defArgs t_is_let, defBody t_is_let, defScope t_is_let, [], [(("late" : Str), .adr (kwA ("is_let" : Str) ("late" : Str)))]⟩
def D_common : He.DefD := ⟨(("common" : Str), none), ("common" : Str), ("common" : Str), defArgs t_common, defBody t_common, defScope t_common, [], []⟩
def D_round_of : He.DefD := ⟨(("round_of" : Str), none), ("round_of" : Str), ("round_of" : Str), defArgs t_round_of, defBody t_round_of, defScope t_round_of, [], []⟩
def D_joint_round : He.DefD := ⟨(("joint_round" : Str), none), ("joint_round" : Str), ("joint_round" : Str), defArgs t_joint_round, defBody t_joint_round, defScope t_joint_round, [], []⟩
def D_law_town : He.DefD := ⟨(("_law_town" : Str), none), ("_law_town" : Str), ("_law_town" : Str), defArgs t_law_town, defBody t_law_town, defScope t_law_town, [], []⟩
def D_law_draw : He.DefD := ⟨(("_law_draw" : Str), none), ("_law_draw" : Str), ("_law_draw" : Str), defArgs t_law_draw, defBody t_law_draw, defScope t_law_draw, [], []⟩
def D_law_pick : He.DefD := ⟨(("_law_pick" : Str), none), ("_law_pick" : Str), ("_law_pick" : Str), defArgs t_law_pick, defBody t_law_pick, defScope t_law_pick, [], []⟩
def D_law_is : He.DefD := ⟨(("_law_is" : Str), none), ("_law_is" : Str), ("_law_is" : Str), defArgs t_law_is, defBody t_law_is, defScope t_law_is, [], []⟩
def D_law_meetings : He.DefD := ⟨(("_law_meetings" : Str), none), ("_law_meetings" : Str), ("_law_meetings" : Str), defArgs t_law_meetings, defBody t_law_meetings, defScope t_law_meetings, [], []⟩
def D_law_crowd : He.DefD := ⟨(("_law_crowd" : Str), none), ("_law_crowd" : Str), ("_law_crowd" : Str), defArgs t_law_crowd, defBody t_law_crowd, defScope t_law_crowd, [], []⟩
def D_law_stand : He.DefD := ⟨(("_law_stand" : Str), none), ("_law_stand" : Str), ("_law_stand" : Str), defArgs t_law_stand, defBody t_law_stand, defScope t_law_stand, [], []⟩
def D_law_hears : He.DefD := ⟨(("_law_hears" : Str), none), ("_law_hears" : Str), ("_law_hears" : Str), defArgs t_law_hears, defBody t_law_hears, defScope t_law_hears, [], []⟩
def D_law_ears : He.DefD := ⟨(("_law_ears" : Str), none), ("_law_ears" : Str), ("_law_ears" : Str), defArgs t_law_ears, defBody t_law_ears, defScope t_law_ears, [], []⟩
def D_law_let : He.DefD := ⟨(("_law_let" : Str), none), ("_law_let" : Str), ("_law_let" : Str), defArgs t_law_let, defBody t_law_let, defScope t_law_let, [], []⟩
def D_law_size : He.DefD := ⟨(("_law_size" : Str), none), ("_law_size" : Str), ("_law_size" : Str), defArgs t_law_size, defBody t_law_size, defScope t_law_size, [], []⟩
def D_law_some : He.DefD := ⟨(("_law_some" : Str), none), ("_law_some" : Str), ("_law_some" : Str), defArgs t_law_some, defBody t_law_some, defScope t_law_some, [], []⟩
def D_law : He.DefD := ⟨(("law" : Str), none), ("law" : Str), ("law" : Str), defArgs t_law, defBody t_law, defScope t_law, [], []⟩
def dfs : List He.DefD := [D_is_whole, D_is_stand, D_is_folk, D_is_crowd, D_look_crowd, D_look_one, D_look_beat, D_is_late, D_look_lates, D_stood, D_stand, D_heard, D_ears, D_hearers, D_may_tell, D_is_let, D_common, D_round_of, D_joint_round, D_law_town, D_law_draw, D_law_pick, D_law_is, D_law_meetings, D_law_crowd, D_law_stand, D_law_hears, D_law_ears, D_law_let, D_law_size, D_law_some, D_law]
def fas : List He.Fa := [.glo ("is_whole" : Str), .glo ("is_stand" : Str), .glo ("is_folk" : Str), .glo ("is_crowd" : Str), .glo ("look_crowd" : Str), .glo ("look_one" : Str), .glo ("look_beat" : Str), .glo ("is_late" : Str), .glo ("look_lates" : Str), .glo ("stood" : Str), .glo ("stand" : Str), .glo ("heard" : Str), .glo ("ears" : Str), .glo ("hearers" : Str), .glo ("may_tell" : Str), .glo ("is_let" : Str), .glo ("common" : Str), .glo ("round_of" : Str), .glo ("joint_round" : Str), .glo ("_law_town" : Str), .glo ("_law_draw" : Str), .glo ("_law_pick" : Str), .glo ("_law_is" : Str), .glo ("_law_meetings" : Str), .glo ("_law_crowd" : Str), .glo ("_law_stand" : Str), .glo ("_law_hears" : Str), .glo ("_law_ears" : Str), .glo ("_law_let" : Str), .glo ("_law_size" : Str), .glo ("_law_some" : Str), .glo ("law" : Str), .free ("abs" : Str), .free ("all" : Str), .free ("any" : Str), .free ("bool" : Str), .free ("int" : Str), .free ("isinstance" : Str), .free ("len" : Str), .free ("list" : Str), .free ("max" : Str), .free ("min" : Str), .free ("range" : Str), .free ("tuple" : Str)]
def exs (K : PySem.W.Frag) : List Bool := [conB K ("MOST_BEAT" : Str) (.int 1000000000000), conB K ("MOST_FOLK" : Str) (.int 8), conB K ("MOST_LATE" : Str) (.int 4), conB K ("MOST_PLACE" : Str) (.int 9), conB K ("MOST_STANDS" : Str) (.int 6), conB K ("WAYS" : Str) (.tup [(.tup [(.int 1), (.int 0)]), (.tup [(.int 0), (.int 1)]), (.tup [(.int (-1)), (.int 0)]), (.tup [(.int 0), (.int (-1))])]), konst K (.tup []) (kwAt ("stand" : Str) ("late" : Str) K), konst K (.tup []) (kwAt ("hearers" : Str) ("late" : Str) K), konst K (.tup []) (kwAt ("is_let" : Str) ("late" : Str) K)]
def exB (K : PySem.W.Frag) : Bool := (exs K).all id
abbrev Rw : PySem.W.OpenRow := PySem.W.OpenLaw.row PySem.Challenge.rw_hushways_k01_whole_hearing
abbrev hk : PySem.W.Hook := hookE 4 fas dfs exB
def ob (s : PySem.W.SharedT) : AlE := obsE 4 fas dfs exB (HandSHeadRun.getT s)
theorem ob_eq (s : PySem.W.SharedT) : ob s = hk.obs s.abs := obsE_eq (HandSHeadRun.getT_eq s)
def nm0 : List Str := [("HushError" : Str), ("BadCrowd" : Str), ("BadFolk" : Str), ("BadBeat" : Str), ("is_whole" : Str), ("MOST_FOLK" : Str), ("MOST_STANDS" : Str), ("MOST_PLACE" : Str), ("MOST_BEAT" : Str), ("MOST_LATE" : Str), ("WAYS" : Str), ("is_stand" : Str), ("is_folk" : Str), ("is_crowd" : Str), ("look_crowd" : Str), ("look_one" : Str), ("look_beat" : Str), ("is_late" : Str), ("look_lates" : Str), ("stood" : Str), ("stand" : Str), ("heard" : Str), ("ears" : Str), ("hearers" : Str), ("may_tell" : Str), ("is_let" : Str), ("common" : Str), ("round_of" : Str), ("joint_round" : Str), ("_law_town" : Str)]
def nm1 : List Str := [("_law_draw" : Str), ("_law_pick" : Str), ("_law_is" : Str), ("_law_meetings" : Str), ("_law_crowd" : Str), ("_law_stand" : Str), ("_law_hears" : Str), ("_law_ears" : Str), ("_law_let" : Str), ("_law_size" : Str), ("_law_some" : Str)]
def names : List Str := nm0 ++ nm1
set_option maxHeartbeats 0 in
theorem run (w : World) : HandSHeadRun.RunEq Rw (PySem.W.view Rw.prog [44]) hk ob 8000 names w := by
  intro os
  kernel_rfl
theorem exs_at {K : PySem.W.Frag} (c : exB K = true) (i : Nat) {b : Bool} (h : (exs K)[i]? = some b := by rfl) : b = true := List.all_eq_true.mp c b (List.mem_of_getElem? h)
theorem facts {P : Program} {W : World} {K : PySem.W.Frag} {C : Kx → Addr} {h : Heap} {mg : Str → Option Value} {f : Addr} (X : K.In h) (G : h.Ns mainGlobals mg) (hfa : mg (("law" : Str)) = some (.ref f)) (c : He.SaysD fas dfs K) (ce : exB K = true) :
    ∃ fd : FuncData, (∀ (s : Shared) (v : Value), BindsTo s fd ⟨[v], []⟩ [("_law_script", v)]) ∧ ∀ base : Heap, K.In base → base.Ns mainGlobals mg → FnOk P W K mg base (L2.CX P W) 6 f fd ["_law_script"] (spF K C f_law 1) := by
  have T : Txt K mg := { b_abs := He.free_ok X G (c.fact 32 (f := .free ("abs" : Str)) rfl), b_all := He.free_ok X G (c.fact 33 (f := .free ("all" : Str)) rfl), b_any := He.free_ok X G (c.fact 34 (f := .free ("any" : Str)) rfl), b_bool := He.free_ok X G (c.fact 35 (f := .free ("bool" : Str)) rfl), b_int := He.free_ok X G (c.fact 36 (f := .free ("int" : Str)) rfl), b_isinstance := He.free_ok X G (c.fact 37 (f := .free ("isinstance" : Str)) rfl), b_len := He.free_ok X G (c.fact 38 (f := .free ("len" : Str)) rfl), b_list := He.free_ok X G (c.fact 39 (f := .free ("list" : Str)) rfl), b_max := He.free_ok X G (c.fact 40 (f := .free ("max" : Str)) rfl), b_min := He.free_ok X G (c.fact 41 (f := .free ("min" : Str)) rfl), b_range := He.free_ok X G (c.fact 42 (f := .free ("range" : Str)) rfl), b_tuple := He.free_ok X G (c.fact 43 (f := .free ("tuple" : Str)) rfl), c_MOST_BEAT := conB_ok X G (exs_at ce 0), c_MOST_FOLK := conB_ok X G (exs_at ce 1), c_MOST_LATE := conB_ok X G (exs_at ce 2), c_MOST_PLACE := conB_ok X G (exs_at ce 3), c_MOST_STANDS := conB_ok X G (exs_at ce 4), c_WAYS := conB_ok X G (exs_at ce 5) }
  obtain ⟨fd_is_whole, F_is_whole⟩ := c.def_ 0 (d := D_is_whole) rfl
  have g_is_whole : mg ("is_whole" : Str) = some (.ref (He.ga K ("is_whole" : Str))) := He.glo_ok X G (c.fact 0 (f := .glo ("is_whole" : Str)) rfl)
  obtain ⟨fd_is_stand, F_is_stand⟩ := c.def_ 1 (d := D_is_stand) rfl
  have g_is_stand : mg ("is_stand" : Str) = some (.ref (He.ga K ("is_stand" : Str))) := He.glo_ok X G (c.fact 1 (f := .glo ("is_stand" : Str)) rfl)
  obtain ⟨fd_is_folk, F_is_folk⟩ := c.def_ 2 (d := D_is_folk) rfl
  have g_is_folk : mg ("is_folk" : Str) = some (.ref (He.ga K ("is_folk" : Str))) := He.glo_ok X G (c.fact 2 (f := .glo ("is_folk" : Str)) rfl)
  obtain ⟨fd_is_crowd, F_is_crowd⟩ := c.def_ 3 (d := D_is_crowd) rfl
  have g_is_crowd : mg ("is_crowd" : Str) = some (.ref (He.ga K ("is_crowd" : Str))) := He.glo_ok X G (c.fact 3 (f := .glo ("is_crowd" : Str)) rfl)
  obtain ⟨fd_look_crowd, F_look_crowd⟩ := c.def_ 4 (d := D_look_crowd) rfl
  have g_look_crowd : mg ("look_crowd" : Str) = some (.ref (He.ga K ("look_crowd" : Str))) := He.glo_ok X G (c.fact 4 (f := .glo ("look_crowd" : Str)) rfl)
  obtain ⟨fd_look_one, F_look_one⟩ := c.def_ 5 (d := D_look_one) rfl
  have g_look_one : mg ("look_one" : Str) = some (.ref (He.ga K ("look_one" : Str))) := He.glo_ok X G (c.fact 5 (f := .glo ("look_one" : Str)) rfl)
  obtain ⟨fd_look_beat, F_look_beat⟩ := c.def_ 6 (d := D_look_beat) rfl
  have g_look_beat : mg ("look_beat" : Str) = some (.ref (He.ga K ("look_beat" : Str))) := He.glo_ok X G (c.fact 6 (f := .glo ("look_beat" : Str)) rfl)
  obtain ⟨fd_is_late, F_is_late⟩ := c.def_ 7 (d := D_is_late) rfl
  have g_is_late : mg ("is_late" : Str) = some (.ref (He.ga K ("is_late" : Str))) := He.glo_ok X G (c.fact 7 (f := .glo ("is_late" : Str)) rfl)
  obtain ⟨fd_look_lates, F_look_lates⟩ := c.def_ 8 (d := D_look_lates) rfl
  have g_look_lates : mg ("look_lates" : Str) = some (.ref (He.ga K ("look_lates" : Str))) := He.glo_ok X G (c.fact 8 (f := .glo ("look_lates" : Str)) rfl)
  obtain ⟨fd_stood, F_stood⟩ := c.def_ 9 (d := D_stood) rfl
  have g_stood : mg ("stood" : Str) = some (.ref (He.ga K ("stood" : Str))) := He.glo_ok X G (c.fact 9 (f := .glo ("stood" : Str)) rfl)
  obtain ⟨fd_stand, F_stand⟩ := c.def_ 10 (d := D_stand) rfl
  have g_stand : mg ("stand" : Str) = some (.ref (He.ga K ("stand" : Str))) := He.glo_ok X G (c.fact 10 (f := .glo ("stand" : Str)) rfl)
  obtain ⟨fd_heard, F_heard⟩ := c.def_ 11 (d := D_heard) rfl
  have g_heard : mg ("heard" : Str) = some (.ref (He.ga K ("heard" : Str))) := He.glo_ok X G (c.fact 11 (f := .glo ("heard" : Str)) rfl)
  obtain ⟨fd_ears, F_ears⟩ := c.def_ 12 (d := D_ears) rfl
  have g_ears : mg ("ears" : Str) = some (.ref (He.ga K ("ears" : Str))) := He.glo_ok X G (c.fact 12 (f := .glo ("ears" : Str)) rfl)
  obtain ⟨fd_hearers, F_hearers⟩ := c.def_ 13 (d := D_hearers) rfl
  have g_hearers : mg ("hearers" : Str) = some (.ref (He.ga K ("hearers" : Str))) := He.glo_ok X G (c.fact 13 (f := .glo ("hearers" : Str)) rfl)
  obtain ⟨fd_may_tell, F_may_tell⟩ := c.def_ 14 (d := D_may_tell) rfl
  have g_may_tell : mg ("may_tell" : Str) = some (.ref (He.ga K ("may_tell" : Str))) := He.glo_ok X G (c.fact 14 (f := .glo ("may_tell" : Str)) rfl)
  obtain ⟨fd_is_let, F_is_let⟩ := c.def_ 15 (d := D_is_let) rfl
  have g_is_let : mg ("is_let" : Str) = some (.ref (He.ga K ("is_let" : Str))) := He.glo_ok X G (c.fact 15 (f := .glo ("is_let" : Str)) rfl)
  obtain ⟨fd_common, F_common⟩ := c.def_ 16 (d := D_common) rfl
  have g_common : mg ("common" : Str) = some (.ref (He.ga K ("common" : Str))) := He.glo_ok X G (c.fact 16 (f := .glo ("common" : Str)) rfl)
  obtain ⟨fd_round_of, F_round_of⟩ := c.def_ 17 (d := D_round_of) rfl
  have g_round_of : mg ("round_of" : Str) = some (.ref (He.ga K ("round_of" : Str))) := He.glo_ok X G (c.fact 17 (f := .glo ("round_of" : Str)) rfl)
  obtain ⟨fd_joint_round, F_joint_round⟩ := c.def_ 18 (d := D_joint_round) rfl
  have g_joint_round : mg ("joint_round" : Str) = some (.ref (He.ga K ("joint_round" : Str))) := He.glo_ok X G (c.fact 18 (f := .glo ("joint_round" : Str)) rfl)
  obtain ⟨fd_law_town, F_law_town⟩ := c.def_ 19 (d := D_law_town) rfl
  have g_law_town : mg ("_law_town" : Str) = some (.ref (He.ga K ("_law_town" : Str))) := He.glo_ok X G (c.fact 19 (f := .glo ("_law_town" : Str)) rfl)
  obtain ⟨fd_law_draw, F_law_draw⟩ := c.def_ 20 (d := D_law_draw) rfl
  have g_law_draw : mg ("_law_draw" : Str) = some (.ref (He.ga K ("_law_draw" : Str))) := He.glo_ok X G (c.fact 20 (f := .glo ("_law_draw" : Str)) rfl)
  obtain ⟨fd_law_pick, F_law_pick⟩ := c.def_ 21 (d := D_law_pick) rfl
  have g_law_pick : mg ("_law_pick" : Str) = some (.ref (He.ga K ("_law_pick" : Str))) := He.glo_ok X G (c.fact 21 (f := .glo ("_law_pick" : Str)) rfl)
  obtain ⟨fd_law_is, F_law_is⟩ := c.def_ 22 (d := D_law_is) rfl
  have g_law_is : mg ("_law_is" : Str) = some (.ref (He.ga K ("_law_is" : Str))) := He.glo_ok X G (c.fact 22 (f := .glo ("_law_is" : Str)) rfl)
  obtain ⟨fd_law_meetings, F_law_meetings⟩ := c.def_ 23 (d := D_law_meetings) rfl
  have g_law_meetings : mg ("_law_meetings" : Str) = some (.ref (He.ga K ("_law_meetings" : Str))) := He.glo_ok X G (c.fact 23 (f := .glo ("_law_meetings" : Str)) rfl)
  obtain ⟨fd_law_crowd, F_law_crowd⟩ := c.def_ 24 (d := D_law_crowd) rfl
  have g_law_crowd : mg ("_law_crowd" : Str) = some (.ref (He.ga K ("_law_crowd" : Str))) := He.glo_ok X G (c.fact 24 (f := .glo ("_law_crowd" : Str)) rfl)
  obtain ⟨fd_law_stand, F_law_stand⟩ := c.def_ 25 (d := D_law_stand) rfl
  have g_law_stand : mg ("_law_stand" : Str) = some (.ref (He.ga K ("_law_stand" : Str))) := He.glo_ok X G (c.fact 25 (f := .glo ("_law_stand" : Str)) rfl)
  obtain ⟨fd_law_hears, F_law_hears⟩ := c.def_ 26 (d := D_law_hears) rfl
  have g_law_hears : mg ("_law_hears" : Str) = some (.ref (He.ga K ("_law_hears" : Str))) := He.glo_ok X G (c.fact 26 (f := .glo ("_law_hears" : Str)) rfl)
  obtain ⟨fd_law_ears, F_law_ears⟩ := c.def_ 27 (d := D_law_ears) rfl
  have g_law_ears : mg ("_law_ears" : Str) = some (.ref (He.ga K ("_law_ears" : Str))) := He.glo_ok X G (c.fact 27 (f := .glo ("_law_ears" : Str)) rfl)
  obtain ⟨fd_law_let, F_law_let⟩ := c.def_ 28 (d := D_law_let) rfl
  have g_law_let : mg ("_law_let" : Str) = some (.ref (He.ga K ("_law_let" : Str))) := He.glo_ok X G (c.fact 28 (f := .glo ("_law_let" : Str)) rfl)
  obtain ⟨fd_law_size, F_law_size⟩ := c.def_ 29 (d := D_law_size) rfl
  have g_law_size : mg ("_law_size" : Str) = some (.ref (He.ga K ("_law_size" : Str))) := He.glo_ok X G (c.fact 29 (f := .glo ("_law_size" : Str)) rfl)
  obtain ⟨fd_law_some, F_law_some⟩ := c.def_ 30 (d := D_law_some) rfl
  have g_law_some : mg ("_law_some" : Str) = some (.ref (He.ga K ("_law_some" : Str))) := He.glo_ok X G (c.fact 30 (f := .glo ("_law_some" : Str)) rfl)
  obtain ⟨fd_law, F_law⟩ := c.def_ 31 (d := D_law) rfl
  have g_law : mg ("law" : Str) = some (.ref (He.ga K ("law" : Str))) := He.glo_ok X G (c.fact 31 (f := .glo ("law" : Str)) rfl)
  have e := hfa.symm.trans g_law
  cases e
  refine ⟨fd_law, fun s v => FunD.bindsA (ps := ["_law_script"]) F_law (fun _ _ _ _ _ _ us hl => match us, hl with | [_], _ => rfl) s [v] rfl, fun base _ _ => ?_⟩
  have K_is_whole := k_is_whole (P := P) (W := W) (base := base) (C := C) T  F_is_whole
  have c_is_whole : Cal P W K mg base C ("is_whole" : Str) 1 3 f_is_whole := ⟨He.ga K ("is_whole" : Str), fd_is_whole, _, g_is_whole, F_is_whole.kp, K_is_whole, FunD.bindsN (ps := [("thing" : Str), ("low" : Str), ("high" : Str)]) F_is_whole fun _ _ _ _ _ _ us hl => match us, hl with | [_, _, _], _ => rfl⟩
  have K_stood := k_stood (P := P) (W := W) (base := base) (C := C) T  F_stood
  have c_stood : Cal P W K mg base C ("stood" : Str) 1 4 f_stood := ⟨He.ga K ("stood" : Str), fd_stood, _, g_stood, F_stood.kp, K_stood, FunD.bindsN (ps := [("crowd" : Str), ("one" : Str), ("beat" : Str), ("late" : Str)]) F_stood fun _ _ _ _ _ _ us hl => match us, hl with | [_, _, _, _], _ => rfl⟩
  have K_common := k_common (P := P) (W := W) (base := base) (C := C) T  F_common
  have c_common : Cal P W K mg base C ("common" : Str) 1 2 f_common := ⟨He.ga K ("common" : Str), fd_common, _, g_common, F_common.kp, K_common, FunD.bindsN (ps := [("one" : Str), ("other" : Str)]) F_common fun _ _ _ _ _ _ us hl => match us, hl with | [_, _], _ => rfl⟩
  have K_law_town := k_law_town (P := P) (W := W) (base := base) (C := C) T  F_law_town
  have c_law_town : Cal P W K mg base C ("_law_town" : Str) 1 1 f_law_town := ⟨He.ga K ("_law_town" : Str), fd_law_town, _, g_law_town, F_law_town.kp, K_law_town, FunD.bindsN (ps := [("_law_script" : Str)]) F_law_town fun _ _ _ _ _ _ us hl => match us, hl with | [_], _ => rfl⟩
  have K_law_draw := k_law_draw (P := P) (W := W) (base := base) (C := C) T  F_law_draw
  have c_law_draw : Cal P W K mg base C ("_law_draw" : Str) 1 2 f_law_draw := ⟨He.ga K ("_law_draw" : Str), fd_law_draw, _, g_law_draw, F_law_draw.kp, K_law_draw, FunD.bindsN (ps := [("_law_town_here" : Str), ("_law_count" : Str)]) F_law_draw fun _ _ _ _ _ _ us hl => match us, hl with | [_, _], _ => rfl⟩
  have K_law_is := k_law_is (P := P) (W := W) (base := base) (C := C) T  F_law_is
  have c_law_is : Cal P W K mg base C ("_law_is" : Str) 1 2 f_law_is := ⟨He.ga K ("_law_is" : Str), fd_law_is, _, g_law_is, F_law_is.kp, K_law_is, FunD.bindsN (ps := [("_law_told" : Str), ("_law_due" : Str)]) F_law_is fun _ _ _ _ _ _ us hl => match us, hl with | [_, _], _ => rfl⟩
  have K_law_stand := k_law_stand (P := P) (W := W) (base := base) (C := C) T  F_law_stand
  have c_law_stand : Cal P W K mg base C ("_law_stand" : Str) 1 4 f_law_stand := ⟨He.ga K ("_law_stand" : Str), fd_law_stand, _, g_law_stand, F_law_stand.kp, K_law_stand, FunD.bindsN (ps := [("_law_crowd_here" : Str), ("_law_one" : Str), ("_law_beat" : Str), ("_law_behind_of" : Str)]) F_law_stand fun _ _ _ _ _ _ us hl => match us, hl with | [_, _, _, _], _ => rfl⟩
  have K_law_size := k_law_size (P := P) (W := W) (base := base) (C := C) T  F_law_size
  have c_law_size : Cal P W K mg base C ("_law_size" : Str) 1 1 f_law_size := ⟨He.ga K ("_law_size" : Str), fd_law_size, _, g_law_size, F_law_size.kp, K_law_size, FunD.bindsN (ps := [("_law_crowds" : Str)]) F_law_size fun _ _ _ _ _ _ us hl => match us, hl with | [_], _ => rfl⟩
  have K_is_stand := k_is_stand (P := P) (W := W) (base := base) (C := C) T c_is_whole F_is_stand
  have c_is_stand : Cal P W K mg base C ("is_stand" : Str) 2 1 f_is_stand := ⟨He.ga K ("is_stand" : Str), fd_is_stand, _, g_is_stand, F_is_stand.kp, K_is_stand, FunD.bindsN (ps := [("thing" : Str)]) F_is_stand fun _ _ _ _ _ _ us hl => match us, hl with | [_], _ => rfl⟩
  have K_is_folk := k_is_folk (P := P) (W := W) (base := base) (C := C) T c_is_whole F_is_folk
  have c_is_folk : Cal P W K mg base C ("is_folk" : Str) 2 2 f_is_folk := ⟨He.ga K ("is_folk" : Str), fd_is_folk, _, g_is_folk, F_is_folk.kp, K_is_folk, FunD.bindsN (ps := [("thing" : Str), ("many" : Str)]) F_is_folk fun _ _ _ _ _ _ us hl => match us, hl with | [_, _], _ => rfl⟩
  have K_look_one := k_look_one (P := P) (W := W) (base := base) (C := C) T c_is_whole F_look_one
  have c_look_one : Cal P W K mg base C ("look_one" : Str) 2 2 f_look_one := ⟨He.ga K ("look_one" : Str), fd_look_one, _, g_look_one, F_look_one.kp, K_look_one, FunD.bindsN (ps := [("crowd" : Str), ("thing" : Str)]) F_look_one fun _ _ _ _ _ _ us hl => match us, hl with | [_, _], _ => rfl⟩
  have K_look_beat := k_look_beat (P := P) (W := W) (base := base) (C := C) T c_is_whole F_look_beat
  have c_look_beat : Cal P W K mg base C ("look_beat" : Str) 2 1 f_look_beat := ⟨He.ga K ("look_beat" : Str), fd_look_beat, _, g_look_beat, F_look_beat.kp, K_look_beat, FunD.bindsN (ps := [("thing" : Str)]) F_look_beat fun _ _ _ _ _ _ us hl => match us, hl with | [_], _ => rfl⟩
  have K_is_late := k_is_late (P := P) (W := W) (base := base) (C := C) T c_is_whole F_is_late
  have c_is_late : Cal P W K mg base C ("is_late" : Str) 2 2 f_is_late := ⟨He.ga K ("is_late" : Str), fd_is_late, _, g_is_late, F_is_late.kp, K_is_late, FunD.bindsN (ps := [("crowd" : Str), ("thing" : Str)]) F_is_late fun _ _ _ _ _ _ us hl => match us, hl with | [_, _], _ => rfl⟩
  have K_heard := k_heard (P := P) (W := W) (base := base) (C := C) T c_stood F_heard
  have c_heard : Cal P W K mg base C ("heard" : Str) 2 5 f_heard := ⟨He.ga K ("heard" : Str), fd_heard, _, g_heard, F_heard.kp, K_heard, FunD.bindsN (ps := [("crowd" : Str), ("one" : Str), ("other" : Str), ("beat" : Str), ("late" : Str)]) F_heard fun _ _ _ _ _ _ us hl => match us, hl with | [_, _, _, _, _], _ => rfl⟩
  have K_round_of := k_round_of (P := P) (W := W) (base := base) (C := C) T c_common F_round_of
  have c_round_of : Cal P W K mg base C ("round_of" : Str) 2 1 f_round_of := ⟨He.ga K ("round_of" : Str), fd_round_of, _, g_round_of, F_round_of.kp, K_round_of, FunD.bindsN (ps := [("crowds" : Str)]) F_round_of fun _ _ _ _ _ _ us hl => match us, hl with | [_], _ => rfl⟩
  have K_law_pick := k_law_pick (P := P) (W := W) (base := base) (C := C) T c_law_draw F_law_pick
  have c_law_pick : Cal P W K mg base C ("_law_pick" : Str) 2 2 f_law_pick := ⟨He.ga K ("_law_pick" : Str), fd_law_pick, _, g_law_pick, F_law_pick.kp, K_law_pick, FunD.bindsN (ps := [("_law_town_here" : Str), ("_law_some_here" : Str)]) F_law_pick fun _ _ _ _ _ _ us hl => match us, hl with | [_, _], _ => rfl⟩
  have K_law_hears := k_law_hears (P := P) (W := W) (base := base) (C := C) T c_law_stand F_law_hears
  have c_law_hears : Cal P W K mg base C ("_law_hears" : Str) 2 5 f_law_hears := ⟨He.ga K ("_law_hears" : Str), fd_law_hears, _, g_law_hears, F_law_hears.kp, K_law_hears, FunD.bindsN (ps := [("_law_crowd_here" : Str), ("_law_one" : Str), ("_law_two" : Str), ("_law_beat" : Str), ("_law_behind_of" : Str)]) F_law_hears fun _ _ _ _ _ _ us hl => match us, hl with | [_, _, _, _, _], _ => rfl⟩
  have K_law_some := k_law_some (P := P) (W := W) (base := base) (C := C) T c_law_draw F_law_some
  have c_law_some : Cal P W K mg base C ("_law_some" : Str) 2 3 f_law_some := ⟨He.ga K ("_law_some" : Str), fd_law_some, _, g_law_some, F_law_some.kp, K_law_some, FunD.bindsN (ps := [("_law_town_here" : Str), ("_law_count" : Str), ("_law_much" : Str)]) F_law_some fun _ _ _ _ _ _ us hl => match us, hl with | [_, _, _], _ => rfl⟩
  have K_is_crowd := k_is_crowd (P := P) (W := W) (base := base) (C := C) T c_is_whole c_is_stand c_is_folk F_is_crowd
  have c_is_crowd : Cal P W K mg base C ("is_crowd" : Str) 3 1 f_is_crowd := ⟨He.ga K ("is_crowd" : Str), fd_is_crowd, _, g_is_crowd, F_is_crowd.kp, K_is_crowd, FunD.bindsN (ps := [("thing" : Str)]) F_is_crowd fun _ _ _ _ _ _ us hl => match us, hl with | [_], _ => rfl⟩
  have K_look_lates := k_look_lates (P := P) (W := W) (base := base) (C := C) T c_is_late F_look_lates
  have c_look_lates : Cal P W K mg base C ("look_lates" : Str) 3 2 f_look_lates := ⟨He.ga K ("look_lates" : Str), fd_look_lates, _, g_look_lates, F_look_lates.kp, K_look_lates, FunD.bindsN (ps := [("crowd" : Str), ("thing" : Str)]) F_look_lates fun _ _ _ _ _ _ us hl => match us, hl with | [_, _], _ => rfl⟩
  have K_ears := k_ears (P := P) (W := W) (base := base) (C := C) T c_heard F_ears
  have c_ears : Cal P W K mg base C ("ears" : Str) 3 4 f_ears := ⟨He.ga K ("ears" : Str), fd_ears, _, g_ears, F_ears.kp, K_ears, FunD.bindsN (ps := [("crowd" : Str), ("teller" : Str), ("beat" : Str), ("late" : Str)]) F_ears fun _ _ _ _ _ _ us hl => match us, hl with | [_, _, _, _], _ => rfl⟩
  have K_law_meetings := k_law_meetings (P := P) (W := W) (base := base) (C := C) T c_law_draw c_law_pick F_law_meetings
  have c_law_meetings : Cal P W K mg base C ("_law_meetings" : Str) 3 3 f_law_meetings := ⟨He.ga K ("_law_meetings" : Str), fd_law_meetings, _, g_law_meetings, F_law_meetings.kp, K_law_meetings, FunD.bindsN (ps := [("_law_town_here" : Str), ("_law_count" : Str), ("_law_long_of" : Str)]) F_law_meetings fun _ _ _ _ _ _ us hl => match us, hl with | [_, _, _], _ => rfl⟩
  have K_law_ears := k_law_ears (P := P) (W := W) (base := base) (C := C) T c_law_hears F_law_ears
  have c_law_ears : Cal P W K mg base C ("_law_ears" : Str) 3 4 f_law_ears := ⟨He.ga K ("_law_ears" : Str), fd_law_ears, _, g_law_ears, F_law_ears.kp, K_law_ears, FunD.bindsN (ps := [("_law_crowd_here" : Str), ("_law_teller" : Str), ("_law_beat" : Str), ("_law_behind_of" : Str)]) F_law_ears fun _ _ _ _ _ _ us hl => match us, hl with | [_, _, _, _], _ => rfl⟩
  have K_look_crowd := k_look_crowd (P := P) (W := W) (base := base) (C := C) T c_is_crowd F_look_crowd
  have c_look_crowd : Cal P W K mg base C ("look_crowd" : Str) 4 1 f_look_crowd := ⟨He.ga K ("look_crowd" : Str), fd_look_crowd, _, g_look_crowd, F_look_crowd.kp, K_look_crowd, FunD.bindsN (ps := [("thing" : Str)]) F_look_crowd fun _ _ _ _ _ _ us hl => match us, hl with | [_], _ => rfl⟩
  have K_may_tell := k_may_tell (P := P) (W := W) (base := base) (C := C) T c_ears F_may_tell
  have c_may_tell : Cal P W K mg base C ("may_tell" : Str) 4 4 f_may_tell := ⟨He.ga K ("may_tell" : Str), fd_may_tell, _, g_may_tell, F_may_tell.kp, K_may_tell, FunD.bindsN (ps := [("crowd" : Str), ("teller" : Str), ("beat" : Str), ("late" : Str)]) F_may_tell fun _ _ _ _ _ _ us hl => match us, hl with | [_, _, _, _], _ => rfl⟩
  have K_law_crowd := k_law_crowd (P := P) (W := W) (base := base) (C := C) T c_law_draw c_law_pick c_law_meetings F_law_crowd
  have c_law_crowd : Cal P W K mg base C ("_law_crowd" : Str) 4 3 f_law_crowd := ⟨He.ga K ("_law_crowd" : Str), fd_law_crowd, _, g_law_crowd, F_law_crowd.kp, K_law_crowd, FunD.bindsN (ps := [("_law_town_here" : Str), ("_law_count" : Str), ("_law_long_of" : Str)]) F_law_crowd fun _ _ _ _ _ _ us hl => match us, hl with | [_, _, _], _ => rfl⟩
  have K_law_let := k_law_let (P := P) (W := W) (base := base) (C := C) T c_law_ears F_law_let
  have c_law_let : Cal P W K mg base C ("_law_let" : Str) 4 4 f_law_let := ⟨He.ga K ("_law_let" : Str), fd_law_let, _, g_law_let, F_law_let.kp, K_law_let, FunD.bindsN (ps := [("_law_crowd_here" : Str), ("_law_teller" : Str), ("_law_beat" : Str), ("_law_behind_of" : Str)]) F_law_let fun _ _ _ _ _ _ us hl => match us, hl with | [_, _, _, _], _ => rfl⟩
  have K_stand := k_stand (P := P) (W := W) (base := base) (C := C) T c_look_crowd c_look_one c_look_beat c_look_lates c_stood F_stand
  have ck_stand : CalK P W K mg base C ("stand" : Str) 5 3 1 [("late" : Str)] f_stand := ⟨rfl, He.ga K ("stand" : Str), fd_stand, _, g_stand, F_stand.kp, K_stand, FunD.kba (ps := [("crowd" : Str), ("one" : Str), ("beat" : Str), ("late" : Str)]) F_stand fun _ _ _ _ _ _ us ws hl hm => match us, hl, ws, hm with | [_, _, _], _, [_], _ => rfl⟩
  have cd_stand : CalD P W K mg base C ("stand" : Str) 5 3 [(.tup [])] f_stand := ⟨He.ga K ("stand" : Str), fd_stand, _, _, g_stand, F_stand.kp, K_stand, FunD.binds0 (ps := [("crowd" : Str), ("one" : Str), ("beat" : Str), ("late" : Str)]) F_stand 3 (by simp [D_stand, He.DefD.kws]) rfl (fun D doc pm an cdv ct us ks hl hk => match us, hl, ks, hk with | [_, _, _], _, [_], _ => ⟨_, _, _, _, _, _, rfl, rfl, rfl⟩), fun F ρ => .cons (kwA_ok (exs_at ce 6) C F ρ) (.nil)⟩
  have K_hearers := k_hearers (P := P) (W := W) (base := base) (C := C) T c_look_crowd c_look_one c_look_beat c_look_lates c_ears F_hearers
  have ck_hearers : CalK P W K mg base C ("hearers" : Str) 5 3 1 [("late" : Str)] f_hearers := ⟨rfl, He.ga K ("hearers" : Str), fd_hearers, _, g_hearers, F_hearers.kp, K_hearers, FunD.kba (ps := [("crowd" : Str), ("teller" : Str), ("beat" : Str), ("late" : Str)]) F_hearers fun _ _ _ _ _ _ us ws hl hm => match us, hl, ws, hm with | [_, _, _], _, [_], _ => rfl⟩
  have cd_hearers : CalD P W K mg base C ("hearers" : Str) 5 3 [(.tup [])] f_hearers := ⟨He.ga K ("hearers" : Str), fd_hearers, _, _, g_hearers, F_hearers.kp, K_hearers, FunD.binds0 (ps := [("crowd" : Str), ("teller" : Str), ("beat" : Str), ("late" : Str)]) F_hearers 3 (by simp [D_hearers, He.DefD.kws]) rfl (fun D doc pm an cdv ct us ks hl hk => match us, hl, ks, hk with | [_, _, _], _, [_], _ => ⟨_, _, _, _, _, _, rfl, rfl, rfl⟩), fun F ρ => .cons (kwA_ok (exs_at ce 7) C F ρ) (.nil)⟩
  have K_is_let := k_is_let (P := P) (W := W) (base := base) (C := C) T c_look_crowd c_look_one c_look_beat c_look_lates c_may_tell F_is_let
  have ck_is_let : CalK P W K mg base C ("is_let" : Str) 5 3 1 [("late" : Str)] f_is_let := ⟨rfl, He.ga K ("is_let" : Str), fd_is_let, _, g_is_let, F_is_let.kp, K_is_let, FunD.kba (ps := [("crowd" : Str), ("teller" : Str), ("beat" : Str), ("late" : Str)]) F_is_let fun _ _ _ _ _ _ us ws hl hm => match us, hl, ws, hm with | [_, _, _], _, [_], _ => rfl⟩
  have cd_is_let : CalD P W K mg base C ("is_let" : Str) 5 3 [(.tup [])] f_is_let := ⟨He.ga K ("is_let" : Str), fd_is_let, _, _, g_is_let, F_is_let.kp, K_is_let, FunD.binds0 (ps := [("crowd" : Str), ("teller" : Str), ("beat" : Str), ("late" : Str)]) F_is_let 3 (by simp [D_is_let, He.DefD.kws]) rfl (fun D doc pm an cdv ct us ks hl hk => match us, hl, ks, hk with | [_, _, _], _, [_], _ => ⟨_, _, _, _, _, _, rfl, rfl, rfl⟩), fun F ρ => .cons (kwA_ok (exs_at ce 8) C F ρ) (.nil)⟩
  have K_joint_round := k_joint_round (P := P) (W := W) (base := base) (C := C) T c_look_crowd c_round_of F_joint_round
  have c_joint_round : Cal P W K mg base C ("joint_round" : Str) 5 1 f_joint_round := ⟨He.ga K ("joint_round" : Str), fd_joint_round, _, g_joint_round, F_joint_round.kp, K_joint_round, FunD.bindsN (ps := [("crowd" : Str)]) F_joint_round fun _ _ _ _ _ _ us hl => match us, hl with | [_], _ => rfl⟩
  have K_law := k_law (P := P) (W := W) (base := base) (C := C) T c_is_crowd ck_stand cd_stand ck_hearers cd_hearers ck_is_let cd_is_let c_joint_round c_law_town c_law_draw c_law_pick c_law_is c_law_crowd c_law_stand c_law_ears c_law_let c_law_size c_law_some F_law
  exact K_law
theorem holds_of (main : ∀ ns : List Int, ns.length ≤ 63 → ∃ S', f_law [.kls ns] [] = R.ok (.bl true) S') : PySem.Challenge.rw_hushways_k01_whole_hearing.Holds := by
  w_on; o_law
  refine HandSHeadRun.head_any (r := Rw) (q := PySem.W.view Rw.prog [44]) (H := hk) (ob := ob) (M := 8000) (loose := names) (d := HandSHeadRun.topDef Rw.prog 44) (kwd := []) ob_eq
    (by kernel_rfl) (fun s => by kernel_rfl) run (by kernel_rfl) (by kernel_rfl) (by kernel_rfl) (by rfl) (by first | assumption | decide +kernel) (by decide +kernel) ⟨rfl, rfl, rfl, rfl, rfl, by decide +kernel⟩ ?hw ?hc
  case hw => w_witness2
  case hc =>
    refine walk_ofW (l := PySem.Challenge.rw_hushways_k01_whole_hearing) (n := 63) (k := 6) (x := "_law_script") (CX := fun w => L2.CX (PySem.Challenge.rw_hushways_k01_whole_hearing).prog w) rfl (by decide) (by kernel_rfl) ⟨rfl, by decide, by decide⟩ ?F (fun _ _ _ _ _ z => cx_false z)
    intro w mg fa h Y G hmg0
    obtain ⟨K, KX, c, ce⟩ := Y
    have hmg : mg ("law" : PySem.Str) = some (.ref fa) := by
      have e : (HandSHeadRun.topDef Rw.prog 44).name = ("law" : PySem.Str) := by kernel_rfl
      rw [← e]
      exact hmg0
    obtain ⟨fd, hb, hF⟩ := facts (P := (PySem.Challenge.rw_hushways_k01_whole_hearing).prog) (W := w) (C := fun _ => 0) KX G hmg c ce
    exact ⟨K, fd, spF K (fun _ => 0) f_law 1, KX, hb, fun H a ns hl hO hS => law_sp main H a ns hl hO hS, hF⟩
end G01

set_option maxRecDepth 100000
set_option maxHeartbeats 1000000
namespace M01
open PySem Hw G01
/-! ### plain runs -/
theorem trunc_same {n : Nat} {v : PV} {S : Sto} (h : S.length = n) : truncR n (.ok v S) = .ok v S := by
  have e : S.take n = S := by rw [← h]; exact List.take_length
  simp only [truncR, e]; split <;> rfl
theorem run_rt {n : Nat} {d : Sm} {args : List PV} {S S' : Sto} {v : PV} (h : d (args.map .v ++ List.replicate (n - args.length) .un) S = .rt v S') (hl : S'.length = S.length) : runFn n d args S = .ok v S' := by
  unfold runFn; rw [h]; exact trunc_same hl
theorem run_nx {n : Nat} {d : Sm} {args : List PV} {S S' : Sto} {e : En} (h : d (args.map .v ++ List.replicate (n - args.length) .un) S = .nx e S') (hl : S'.length = S.length) : runFn n d args S = .ok .non S' := by
  unfold runFn; rw [h]; exact trunc_same hl
theorem lc_pure {α : Type} {g : Tgt} {c e : Ex} {env0 : En} {S : Sto} (enc : α → PV) (p : α → Bool) (f : α → PV) : ∀ (l : List α), (∀ a ∈ l, ∃ env1, g (enc a) env0 = some env1 ∧ c env1 S = .ok (.bl (p a)) S ∧ (p a = true → e env1 S = .ok (f a) S)) →
    lcLoop g c e env0 (l.map enc) S = .ok ((l.filter p).map f) S
  | [], _ => rfl
  | a :: l, h => by
    obtain ⟨env1, h1, h2, h3⟩ := h a (by simp)
    have ih := lc_pure enc p f l fun b hb => h b (by simp [hb])
    rw [List.map_cons, lcLoop, h1]
    simp only [h2, R.bind]
    cases hp : p a with
    | true => simp only [h3 hp, R.bind, ih, List.filter_cons, hp, if_true, List.map_cons]
    | false => simp [ih, hp]
theorem elc {α : Type} {it : Itx} {vs : List Nat} {g : Tgt} {c e : Ex} {env env0 : En} {S : Sto} (l : List α) (enc : α → PV) (p : α → Bool) (f : α → PV) (hi : it env S = .ok (l.map enc) S) (hw : wipeE vs env = some env0) (hl : l.length ≤ 1000000)
    (h : ∀ a ∈ l, ∃ env1, g (enc a) env0 = some env1 ∧ c env1 S = .ok (.bl (p a)) S ∧ (p a = true → e env1 S = .ok (f a) S)) : eLC it vs g c e env S = .ok (.lst ((l.filter p).map f)) S := by
  unfold eLC
  rw [hi]
  simp only [R.bind, hw]
  rw [if_pos (by simpa using hl), lc_pure enc p f l h]
  rfl
theorem elc1 {α : Type} {it : Itx} {vs : List Nat} {g : Tgt} {e : Ex} {env env0 : En} {S : Sto} (l : List α) (enc : α → PV) (f : α → PV) (hi : it env S = .ok (l.map enc) S) (hw : wipeE vs env = some env0) (hl : l.length ≤ 1000000)
    (h : ∀ a ∈ l, ∃ env1, g (enc a) env0 = some env1 ∧ e env1 S = .ok (f a) S) : eLC it vs g eYes e env S = .ok (.lst (l.map f)) S := by
  rw [elc l enc (fun _ => true) f hi hw hl fun a ha => by
    obtain ⟨e1, h1, h2⟩ := h a ha
    exact ⟨e1, h1, rfl, fun _ => h2⟩]
  rw [List.filter_eq_self.mpr fun _ _ => rfl]
theorem bls_map {α : Type} (q : α → Bool) : ∀ l : List α, blsOf (l.map fun a => PV.bl (q a)) = some (l.map q)
  | [] => rfl
  | a :: l => by simp [blsOf, bls_map q l]
theorem all_lc {α : Type} {it : Itx} {vs : List Nat} {g : Tgt} {e : Ex} {env env0 : En} {S : Sto} (l : List α) (enc : α → PV) (q : α → Bool) (hi : it env S = .ok (l.map enc) S) (hw : wipeE vs env = some env0) (hl : l.length ≤ 1000000)
    (h : ∀ a ∈ l, ∃ env1, g (enc a) env0 = some env1 ∧ e env1 S = .ok (.bl (q a)) S) : eP1 pAll (pA (eLC it vs g eYes e)) env S = .ok (.bl (l.all q)) S := by
  simp [eP1, pA, elc1 l enc (fun a => .bl (q a)) hi hw hl h, R.bind, plOf, res, pAll, bls_map, R.opt, List.all_map, Function.comp_def]
theorem any_lc {α : Type} {it : Itx} {vs : List Nat} {g : Tgt} {e : Ex} {env env0 : En} {S : Sto} (l : List α) (enc : α → PV) (q : α → Bool) (hi : it env S = .ok (l.map enc) S) (hw : wipeE vs env = some env0) (hl : l.length ≤ 1000000)
    (h : ∀ a ∈ l, ∃ env1, g (enc a) env0 = some env1 ∧ e env1 S = .ok (.bl (q a)) S) : eP1 pAny (pA (eLC it vs g eYes e)) env S = .ok (.bl (l.any q)) S := by
  simp [eP1, pA, elc1 l enc (fun a => .bl (q a)) hi hw hl h, R.bind, plOf, res, pAny, bls_map, R.opt, List.any_map, Function.comp_def]
theorem for_inv {α : Type} {g : Tgt} {body : Sm} (enc : α → PV) (I : En → Sto → Prop) : ∀ (l : List α), (∀ a ∈ l, ∀ env S, I env S → ∃ env1, g (enc a) env = some env1 ∧ ∃ env2 S2, body env1 S = .nx env2 S2 ∧ I env2 S2) → ∀ env S, I env S →
    ∃ env' S', forLoop g body (l.map enc) env S = .nx env' S' ∧ I env' S'
  | [], _, env, S, h => ⟨env, S, rfl, h⟩
  | a :: l, hs, env, S, h => by
    obtain ⟨e1, h1, e2, S2, h2, h3⟩ := hs a (by simp) env S h
    obtain ⟨e3, S3, h4, h5⟩ := for_inv enc I l (fun b hb => hs b (by simp [hb])) e2 S2 h3
    refine ⟨e3, S3, ?_, h5⟩
    rw [List.map_cons, forLoop, h1]
    simp only [h2, h4]
/-! ### steps -/
section
variable {c e : Ex} {a b r : Sm} {g : Tgt} {env env' : En} {S S' : Sto} {v : PV} {it : Itx} {xs : List PV}
theorem step_ifF (h : c env S = .ok (.bl false) S') : sSeq (sIf c a sNil) r env S = r env S' := by simp [sSeq, sIf, h, sNil]
theorem step_ifT (h : c env S = .ok (.bl true) S') (h2 : a env S' = .rt v S) : sSeq (sIf c a b) r env S = .rt v S := by simp [sSeq, sIf, h, h2]
theorem step_ret (h : e env S = .ok v S') : sSeq (sRet e) r env S = .rt v S' := by simp [sSeq, sRet, h]
theorem step_put (h : e env S = .ok v S') (hg : g v env = some env') : sSeq (sPut g e) r env S = r env' S' := by simp [sSeq, sPut, h, hg]
theorem step_ex (h : e env S = .ok v S') : sSeq (sEx e) r env S = r env S' := by simp [sSeq, sEx, h]
theorem or_F {a b : Ex} (h : a env S = .ok (.bl false) S') : eOr a b env S = b env S' := by simp [eOr, h, R.bind]
theorem or_T {a b : Ex} (h : a env S = .ok (.bl true) S') : eOr a b env S = .ok (.bl true) S' := by simp [eOr, h, R.bind]
theorem and_T {a b : Ex} (h : a env S = .ok (.bl true) S') : eAnd a b env S = b env S' := by simp [eAnd, h, R.bind]
theorem and_F {a b : Ex} (h : a env S = .ok (.bl false) S') : eAnd a b env S = .ok (.bl false) S' := by simp [eAnd, h, R.bind]
theorem not_ok {a : Ex} {b : Bool} (h : a env S = .ok (.bl b) S') : eNot a env S = .ok (.bl (!b)) S' := by simp [eNot, h, R.bind]
theorem orF {a b : Ex} {q : R PV} (h : a env S = .ok (.bl false) S) (h2 : b env S = q) : eOr a b env S = q := (or_F h).trans h2
theorem andT {a b : Ex} {q : R PV} (h : a env S = .ok (.bl true) S) (h2 : b env S = q) : eAnd a b env S = q := (and_T h).trans h2
theorem notT {a : Ex} (h : a env S = .ok (.bl true) S) : eNot a env S = .ok (.bl false) S := not_ok h
theorem notF {a : Ex} (h : a env S = .ok (.bl false) S) : eNot a env S = .ok (.bl true) S := not_ok h
theorem step_for (h : it env S = .ok xs S) (h2 : forLoop g a xs env S = .nx env' S') : sSeq (sFor it g a) r env S = r env' S' := by simp [sSeq, sFor, h, h2]
theorem step_forR {w : PV} (h : it env S = .ok xs S) (h2 : forLoop g a xs env S = .rt w S') : sSeq (sFor it g a) r env S = .rt w S' := by simp [sSeq, sFor, h, h2]
theorem ifF {q : RS} (h : c env S = .ok (.bl false) S) (h2 : r env S = q) : sSeq (sIf c a sNil) r env S = q := (step_ifF h).trans h2
theorem putS {q : RS} (h : e env S = .ok v S) (hg : g v env = some env') (h2 : r env' S = q) : sSeq (sPut g e) r env S = q := (step_put h hg).trans h2
theorem exS {q : RS} (h : e env S = .ok v S) (h2 : r env S = q) : sSeq (sEx e) r env S = q := (step_ex h).trans h2
theorem forS {q : RS} (h : it env S = .ok xs S) (h1 : forLoop g a xs env S = .nx env' S) (h2 : r env' S = q) : sSeq (sFor it g a) r env S = q := (step_for h h1).trans h2
theorem ifE {r : Sm} {k : Bool} (h : c env S = .ok (.bl k) S) : sSeq (sIf c a sNil) r env S = if k then sSeq a r env S else r env S := by
  cases k
  · exact step_ifF h
  · simp [sSeq, sIf, h]
theorem seqRt {w : PV} {a r : Sm} (h : a env S = .rt w S') : sSeq a r env S = .rt w S' := by simp [sSeq, h]
theorem parS {q : RS} {is : List Nat} {ds : Exs} {us : List PV} (h : ds env S = .ok us S) (hg : tgs is us env = some env') (h2 : r env' S = q) : sSeq (sPar is ds) r env S = q := by simp [sSeq, sPar, h, hg, h2]
theorem callS {q : R PV} {f : Fn} {ds : Exs} {us : List PV} (h : ds env S = .ok us S) (h2 : f us S = q) : eCall f ds env S = q := by simp [eCall, h, R.bind, h2]
theorem aC {ds : Exs} {us : List PV} (h : e env S = .ok v S) (h2 : ds env S = .ok us S) : esCons e ds env S = .ok (v :: us) S := by simp [esCons, h, h2, R.bind]
theorem aN : esNil env S = .ok [] S := rfl
theorem retS (h : e env S = .ok v S) : sSeq (sRet e) r env S = .rt v S := step_ret h
end
/-! ### places, purely -/
def PlE (p : Plx) (env : En) (S : Sto) (x : PV) : Prop := ∃ pl, p env S = .ok pl S ∧ res pl env S = some x
section
variable {env : En} {S : Sto} {x u v z : PV} {a b : Plx} {f : PV → PV → Option PV} {f1 : PV → Option PV} {d : Ex} {i : Nat}
theorem pA_ok (h : d env S = .ok x S) (hp : plOf x = .val x := by rfl) : PlE (pA d) env S x := ⟨.val x, by simp [pA, h, R.bind, hp], rfl⟩
theorem pN_ok (h : env[i]? = some (.v x) := by rfl) (hp : plOf x = .val x := by rfl) : PlE (pN i) env S x := ⟨.val x, by simp [pN, h, hp], rfl⟩
theorem pO_ok (h : env[i]? = some (.own x) := by rfl) : PlE (pN i) env S x := ⟨.slot i, by simp [pN, h], by simp [res, h]⟩
theorem pC_ok {n : Nat} (h : env[i]? = some (.v (.ptr n))) (hs : S[n]? = some x) : PlE (pN i) env S x := ⟨.cell n, by simp [pN, h, plOf], hs⟩
theorem p1_ok (ha : PlE a env S u) (h : f1 u = some z) : eP1 f1 a env S = .ok z S := by
  obtain ⟨p, h1, h2⟩ := ha
  simp [eP1, h1, R.bind, h2, h, R.opt]
theorem p2_ok (ha : PlE a env S u) (hb : PlE b env S v) (h : f u v = some z) : eP2 f a b env S = .ok z S := by
  obtain ⟨p, h1, h2⟩ := ha
  obtain ⟨q, h3, h4⟩ := hb
  simp [eP2, h1, h3, R.bind, h2, h4, h, R.opt]
theorem eC_ok : eC x env S = .ok x S := rfl
theorem eV_ok (h : env[i]? = some (.v x) := by rfl) : eVar i env S = .ok x S := by simp [eVar, h]
theorem pC_c : (hp : plOf x = .val x) → PlE (pA (eC x)) env S x := fun hp => pA_ok rfl hp
end
/-! ### indexes -/
theorem ixN_in {n : Nat} {i : Int} (h0 : 0 ≤ i) (h1 : i < n) : L2.ixN n i = some i.toNat := by
  unfold L2.ixN; rw [if_pos h0, if_pos h1]
theorem atI_map {α : Type} [Inhabited α] (l : List α) (enc : α → PV) {i : Int} (h0 : 0 ≤ i) (h1 : i < l.length) : L2.atI (l.map enc) i = some (enc l[i.toNat]!) := by
  unfold L2.atI
  rw [ixN_in h0 (by simpa using h1)]
  have : i.toNat < l.length := by omega
  simp [this]
theorem idx_t {α : Type} [Inhabited α] (l : List α) (enc : α → PV) {i : Int} (h0 : 0 ≤ i) (h1 : i < l.length) : pIdx (.tup (l.map enc)) (.int i) = some (enc l[i.toNat]!) := atI_map l enc h0 h1
theorem idx_l {α : Type} [Inhabited α] (l : List α) (enc : α → PV) {i : Int} (h0 : 0 ≤ i) (h1 : i < l.length) : pIdx (.lst (l.map enc)) (.int i) = some (enc l[i.toNat]!) := atI_map l enc h0 h1
/-! ### crowds -/
abbrev St3 := Int × Int × Int
def eS (s : St3) : PV := .tup [.int s.1, .int s.2.1, .int s.2.2]
def eRow (r : List St3) : PV := .tup (r.map eS)
def eCr (reach : Int) (rows : List (List St3)) (bar : List Int) : PV := .tup [.int reach, .tup (rows.map eRow), .tup (bar.map .int)]
def eLate (l : List St3) : PV := .tup (l.map eS)
structure Good (reach : Int) (rows : List (List St3)) (bar : List Int) : Prop where
  r0 : 0 ≤ reach
  r1 : reach ≤ 18
  n0 : 2 ≤ rows.length
  n1 : rows.length ≤ 8
  l0 : ∀ r ∈ rows, 1 ≤ r.length
  l1 : ∀ r ∈ rows, r.length ≤ 6
  st : ∀ r ∈ rows, ∀ s ∈ r, -9 ≤ s.1 ∧ s.1 ≤ 9 ∧ -9 ≤ s.2.1 ∧ s.2.1 ≤ 9 ∧ 0 ≤ s.2.2 ∧ s.2.2 ≤ 3
  b0 : ∀ b ∈ bar, 0 ≤ b ∧ b < rows.length
  b1 : bar.Pairwise (· < ·)
  b2 : bar.length ≤ 1000
structure GoodL (n : Nat) (late : List St3) : Prop where
  l : late.length ≤ 4
  w : ∀ t ∈ late, 0 ≤ t.1 ∧ t.1 < n ∧ 0 ≤ t.2.1 ∧ t.2.1 ≤ 1000000000000 ∧ 1 ≤ t.2.2 ∧ t.2.2 ≤ 6
  p : late.Pairwise (·.1 < ·.1)
theorem ev_is_whole (S : Sto) (a lo hi : Int) : f_is_whole [.int a, .int lo, .int hi] S = .ok (.bl (decide (lo ≤ a) && decide (a ≤ hi))) S := by
  refine run_rt ?_ rfl
  by_cases h1 : lo ≤ a <;> simp [d_is_whole, sSeq, sRet, eAnd, eNot, eP1, pN, plOf, res, pIsi, pIsI, R.bind, R.opt, eChain, eVar, pLe, h1]
theorem ev_look_beat (S : Sto) (a : Int) (h : 0 ≤ a ∧ a ≤ 1000000000000) : f_look_beat [.int a] S = .ok .non S := by
  refine run_nx (e := [.v (.int a)]) ?_ rfl
  simp [d_look_beat, sSeq, sIf, eNot, eCall, esCons, esNil, eVar, eC, ev_is_whole, R.bind, sNil, h.1, h.2]
theorem ev_is_stand (S : Sto) (s : St3) (h : -9 ≤ s.1 ∧ s.1 ≤ 9 ∧ -9 ≤ s.2.1 ∧ s.2.1 ≤ 9 ∧ 0 ≤ s.2.2 ∧ s.2.2 ≤ 3) : f_is_stand [eS s] S = .ok (.bl true) S := by
  refine run_rt ?_ rfl
  obtain ⟨x, y, w⟩ := s
  simp only at h
  have key : eP1 pAll (pA (eLC (iP (pA (eCut (pN 0) none (some (eC (.int 2)))))) [1] (tgN 1) (eYes) (eCall f_is_whole (esCons (eVar 1) (esCons (eOp1 pNeg (eC (.int 9))) (esCons (eC (.int 9)) (esNil))))))) [.v (eS (x, y, w)), .un] S = .ok (.bl ([x, y].all fun a => decide (-9 ≤ a) && decide (a ≤ 9))) S := by
    refine all_lc (env0 := [.v (eS (x, y, w)), .un]) [x, y] .int _ ?_ rfl (by simp) fun a _ => ⟨[.v (eS (x, y, w)), .v (.int a)], rfl, ?_⟩
    · simp [iP, pA, eCut, pN, plOf, eS, res, eOpt, eC, R.bind, R.opt, pCut, cutP, HT.sIx, itemsOf]
    · simp [eCall, esCons, esNil, eVar, eC, eOp1, pNeg, R.bind, R.opt, ev_is_whole]
  refine (step_ifF ?_).trans ((step_ret key).trans ?_)
  · simp [eOr, eNot, eS, eP1, eP2, pN, pA, plOf, res, pIsi, pIsI, pLen, pNeK, pNe, PV.sh, PV.eq, pIdx, L2.atI, L2.ixN, eCall, esCons, esNil, eC, ev_is_whole, R.bind, R.opt, h]
  · simp [h]
end M01

set_option maxRecDepth 100000
set_option maxHeartbeats 1000000
namespace M01
open PySem Hw G01
theorem ev_is_folk (S : Sto) (bar : List Int) (n : Int) (hl : bar.length ≤ 1000) (h0 : ∀ b ∈ bar, 0 ≤ b ∧ b < n) (hp : bar.Pairwise (· < ·)) : f_is_folk [.tup (bar.map .int), .int n] S = .ok (.bl true) S := by
  refine run_rt ?_ rfl
  have k1 : eP1 pAll (pA (eLC (iP (pN 0)) [3] (tgN 3) (eYes) (eCall f_is_whole (esCons (eVar 3) (esCons (eC (.int 0)) (esCons (eP2 pSub (pN 1) (pA (eC (.int 1)))) (esNil))))))) [.v (.tup (bar.map .int)), .v (.int n), .un, .un] S = .ok (.bl (bar.all fun a => decide (0 ≤ a) && decide (a ≤ n - 1))) S := by
    refine all_lc (env0 := [.v (.tup (bar.map .int)), .v (.int n), .un, .un]) bar .int _ ?_ rfl (by omega) fun a _ => ⟨[.v (.tup (bar.map .int)), .v (.int n), .un, .v (.int a)], rfl, ?_⟩
    · simp [iP, pN, plOf, R.bind, R.opt, itemsOf]
    · simp [eCall, esCons, esNil, eVar, eC, eP2, pN, pA, plOf, res, pSub, R.bind, R.opt, ev_is_whole]
  have k2 : eP1 pAll (pA (eLC (iR1 (eP2 pSub (pA (eP1 pLen (pN 0))) (pA (eC (.int 1))))) [2] (tgN 2) (eYes) (eP2 pLt (pA (eP2 pIdx (pN 0) (pN 2))) (pA (eP2 pIdx (pN 0) (pA (eP2 pAdd (pN 2) (pA (eC (.int 1)))))))))) [.v (.tup (bar.map .int)), .v (.int n), .un, .un] S
      = .ok (.bl ((List.range (bar.length - 1)).all fun k => decide (bar[k]! < bar[k + 1]!))) S := by
    refine all_lc (env0 := [.v (.tup (bar.map .int)), .v (.int n), .un, .un]) (List.range (bar.length - 1)) (fun (k : Nat) => .int (0 + (k : Int))) _ ?_ rfl (by simp; omega) fun k hk => ⟨[.v (.tup (bar.map .int)), .v (.int n), .v (.int (0 + (k : Int))), .un], rfl, ?_⟩
    · have ok : okN ((bar.length : Int) - 1) = true := by
        unfold okN
        rw [Bool.and_eq_true]
        exact ⟨decide_eq_true (by omega), decide_eq_true (by omega)⟩
      simp [iR1, eP2, eP1, pN, pA, plOf, res, pLen, eC, pSub, R.bind, R.opt, rangeL, ok]
    · have hk : k < bar.length - 1 := List.mem_range.mp hk
      have i1 := idx_t bar .int (i := (0 + (k : Int))) (by omega) (by omega)
      have i2 := idx_t bar .int (i := (0 + (k : Int)) + 1) (by omega) (by omega)
      simp [eP2, pN, pA, plOf, res, eC, pAdd, pLt, R.bind, R.opt, i1, i2] at i1 i2 ⊢
      simp [i1, i2, pLt, R.opt, R.bind]
  have a1 : (bar.all fun a => decide (0 ≤ a) && decide (a ≤ n - 1)) = true := List.all_eq_true.mpr fun b hb => by
    obtain ⟨x, y⟩ := h0 b hb
    simp; omega
  have a2 : ((List.range (bar.length - 1)).all fun k => decide (bar[k]! < bar[k + 1]!)) = true := List.all_eq_true.mpr fun k hk => by
    have hk : k < bar.length - 1 := List.mem_range.mp hk
    have := List.pairwise_iff_getElem.mp hp k (k + 1) (by omega) (by omega) (by omega)
    rw [getElem!_pos bar k (by omega), getElem!_pos bar (k + 1) (by omega)]
    exact decide_eq_true this
  rw [a1] at k1
  rw [a2] at k2
  refine (step_ifF (orF (notT ?_) (notT k1))).trans (step_ret k2)
  simp [eP1, pN, plOf, res, pIsi, pIsI, R.bind, R.opt]
theorem ev_is_crowd (S : Sto) {reach : Int} {rows : List (List St3)} {bar : List Int} (h : Good reach rows bar) : f_is_crowd [eCr reach rows bar] S = .ok (.bl true) S := by
  refine run_rt ?_ rfl
  have kr : ∀ (r : List St3), r ∈ rows → ∀ (env : En), env.length = 6 → env[1]? = some (.v (eRow r)) → (∃ x, env[5]? = some (.v x)) ∨ env[5]? = some .un → eP1 pAll (pA (eLC (iP (pN 1)) [5] (tgN 5) (eYes) (eCall f_is_stand (esCons (eVar 5) (esNil))))) env S = .ok (.bl true) S := fun r hr env hl h1 h5 => by
    have hw : wipeE [5] env = some (env.set 5 .un) := by
      unfold wipeE
      rcases h5 with ⟨x, h5⟩ | h5 <;> simp [h5, wipeE]
    rw [all_lc (env0 := env.set 5 .un) r eS (fun _ => true) ?_ hw ?_ ?_]
    · simp
    · simp [iP, pN, plOf, R.bind, R.opt, itemsOf, h1, eRow]
    · have := h.l1 r hr; omega
    · intro s hs
      refine ⟨(env.set 5 .un).set 5 (.v (eS s)), ?_, ?_⟩
      · simp [tgN, setV, hl]
      · simp [eCall, esCons, esNil, eVar, hl, R.bind, ev_is_stand S s (h.st r hr s hs)]
  obtain ⟨e', S', h1, h2⟩ := for_inv (g := tgN 1) (body := (sSeq (sIf (eOr (eNot (eP1 (pIsi .tuple) (pN 1))) (eOr (eNot (eChain pLe pLe (eC (.int 1)) (eP1 pLen (pN 1)) (eC (.int 6)))) (eNot (eP1 pAll (pA (eLC (iP (pN 1)) [5] (tgN 5) (eYes) (eCall f_is_stand (esCons (eVar 5) (esNil))))))))) (sSeq (sRet (eC (.bl false))) (sNil)) (sNil)) (sNil))) eRow
    (fun env S' => S' = S ∧ ∃ x, env = [.v (eCr reach rows bar), x, .v (.int reach), .v (.tup (rows.map eRow)), .v (.tup (bar.map .int)), .un] ∧ ∀ y, x ≠ .lk y) rows (fun r hr env S' hI => by
      obtain ⟨rfl, x, rfl, hx⟩ := hI
      refine ⟨[.v (eCr reach rows bar), .v (eRow r), .v (.int reach), .v (.tup (rows.map eRow)), .v (.tup (bar.map .int)), .un], ?_, _, S', ?_, rfl, .v (eRow r), rfl, fun y => by simp⟩
      · cases x <;> simp [tgN, setV] at hx ⊢
      · have k := kr r hr [.v (eCr reach rows bar), .v (eRow r), .v (.int reach), .v (.tup (rows.map eRow)), .v (.tup (bar.map .int)), .un] rfl rfl (.inr rfl)
        have l0 : (1 : Int) ≤ r.length := by have := h.l0 r hr; omega
        have l1 : (r.length : Int) ≤ 6 := by have := h.l1 r hr; omega
        refine (step_ifF (orF (notT ?_) (orF (notT ?_) (notT k)))).trans rfl
        · simp [eP1, pN, plOf, res, pIsi, pIsI, R.bind, R.opt, eRow]
        · simp [eP1, pN, plOf, res, R.bind, R.opt, eRow, eChain, eC, pLen, pLe, l0, l1]) [.v (eCr reach rows bar), .un, .v (.int reach), .v (.tup (rows.map eRow)), .v (.tup (bar.map .int)), .un] S ⟨rfl, .un, rfl, fun _ => by simp⟩
  obtain ⟨rfl, x, rfl, hx⟩ := h2
  have n0 : (2 : Int) ≤ rows.length := by have := h.n0; omega
  have n1 : (rows.length : Int) ≤ 8 := by have := h.n1; omega
  refine ifF ?_ (putS (env' := [.v (eCr reach rows bar), .un, .v (.int reach), .v (.tup (rows.map eRow)), .v (.tup (bar.map .int)), .un]) rfl rfl (ifF ?_ (forS rfl h1 (retS ?_))))
  · simp [eOr, eNot, eCr, eP1, eP2, pN, pA, plOf, res, pIsi, pIsI, pLen, pNeK, pNe, pMul, cmulB, PV.sh, PV.eq, pIdx, L2.atI, L2.ixN, eCall, esCons, esNil, eC, ev_is_whole, R.bind, R.opt, h.r0, h.r1]
  · simp [eOr, eNot, eP1, pN, plOf, res, pIsi, pIsI, pLen, eChain, pLe, eC, R.bind, R.opt, n0, n1]
  · simp [eCall, esCons, esNil, eVar, eP1, pN, plOf, res, pLen, R.bind, R.opt, ev_is_folk S' bar rows.length h.b2 h.b0 h.b1]
theorem ev_look_crowd (S : Sto) {reach : Int} {rows : List (List St3)} {bar : List Int} (h : Good reach rows bar) : f_look_crowd [eCr reach rows bar] S = .ok .non S := by
  refine run_nx (e := [.v (eCr reach rows bar)]) (ifF ?_ rfl) rfl
  simp [eNot, eCall, esCons, esNil, eVar, R.bind, ev_is_crowd S h]
theorem ev_look_one (S : Sto) {reach : Int} {rows : List (List St3)} {bar : List Int} {one : Int} (h0 : 0 ≤ one) (h1 : one < rows.length) : f_look_one [eCr reach rows bar, .int one] S = .ok .non S := by
  refine run_nx (e := [.v (eCr reach rows bar), .v (.int one)]) (ifF ?_ rfl) rfl
  have : one ≤ (rows.length : Int) - 1 := by omega
  simp [eNot, eCall, esCons, esNil, eVar, eC, eP2, eP1, pN, pA, plOf, res, eCr, pIdx, L2.atI, L2.ixN, pLen, pSub, R.bind, R.opt, ev_is_whole, h0, this]
theorem ev_is_late (S : Sto) {reach : Int} {rows : List (List St3)} {bar : List Int} (t : St3) (h : 0 ≤ t.1 ∧ t.1 < rows.length ∧ 0 ≤ t.2.1 ∧ t.2.1 ≤ 1000000000000 ∧ 1 ≤ t.2.2 ∧ t.2.2 ≤ 6) : f_is_late [eCr reach rows bar, eS t] S = .ok (.bl true) S := by
  refine run_rt (ifF ?_ (retS ?_)) rfl
  · have : t.1 ≤ (rows.length : Int) - 1 := by omega
    simp [eOr, eNot, eS, eCall, esCons, esNil, eVar, eC, eP2, eP1, pN, pA, plOf, res, eCr, pIdx, L2.atI, L2.ixN, pLen, pSub, pIsi, pIsI, pNeK, pNe, PV.sh, PV.eq, R.bind, R.opt, ev_is_whole, h, this]
  · simp [eAnd, eS, eCall, esCons, esNil, eVar, eC, eP2, eP1, pN, pA, plOf, res, pIdx, L2.atI, L2.ixN, R.bind, R.opt, ev_is_whole, h]
end M01

set_option maxRecDepth 100000
set_option maxHeartbeats 1000000
namespace M01
open PySem Hw G01
theorem for_find {α : Type} {g : Tgt} {body : Sm} {S : Sto} (enc : α → PV) (p : α → Bool) (out : α → PV) (I : En → Prop) : ∀ (l : List α), (∀ a ∈ l, ∀ env, I env → ∃ env1, g (enc a) env = some env1 ∧ if p a = true then body env1 S = .rt (out a) S else ∃ env2, body env1 S = .nx env2 S ∧ I env2) → ∀ env, I env →
    (match l.find? p with
      | some a => forLoop g body (l.map enc) env S = .rt (out a) S
      | none => ∃ env', forLoop g body (l.map enc) env S = .nx env' S ∧ I env')
  | [], _, env, h => ⟨env, rfl, h⟩
  | a :: l, hs, env, h => by
    obtain ⟨e1, h1, h2⟩ := hs a (by simp) env h
    rw [List.find?_cons]
    cases hp : p a with
    | true =>
      rw [if_pos hp] at h2
      simp only [List.map_cons, forLoop, h1, h2]
    | false =>
      rw [if_neg (by simp [hp])] at h2
      obtain ⟨e2, h2, h3⟩ := h2
      have ih := for_find enc p out I l (fun b hb => hs b (by simp [hb])) e2 h3
      simp only [List.map_cons, forLoop, h1, h2]
      exact ih
def nlk (x : SV) : Prop := ∀ y, x ≠ .lk y
theorem nlk_un : nlk .un := fun _ => by simp
theorem nlk_v (x : PV) : nlk (.v x) := fun _ => by simp
theorem ev_look_lates (S : Sto) {reach : Int} {rows : List (List St3)} {bar : List Int} {late : List St3} (h : GoodL rows.length late) : f_look_lates [eCr reach rows bar, eLate late] S = .ok .non S := by
  have hl := h.l
  have k1 : eP1 pAll (pA (eLC (iP (pN 1)) [3] (tgN 3) (eYes) (eCall f_is_late (esCons (eVar 0) (esCons (eVar 3) (esNil)))))) [.v (eCr reach rows bar), .v (eLate late), .un, .un, .un] S = .ok (.bl (late.all fun _ => true)) S := by
    refine all_lc (env0 := [.v (eCr reach rows bar), .v (eLate late), .un, .un, .un]) late eS _ ?_ rfl (by omega) fun t ht => ⟨[.v (eCr reach rows bar), .v (eLate late), .un, .v (eS t), .un], rfl, ?_⟩
    · simp [iP, pN, plOf, R.bind, R.opt, itemsOf, eLate]
    · simp [eCall, esCons, esNil, eVar, R.bind, ev_is_late S t (h.w t ht)]
  have k2 : eP1 pAny (pA (eLC (iR1 (eP2 pSub (pA (eP1 pLen (pN 1))) (pA (eC (.int 1))))) [4] (tgN 4) (eYes) (eP2 pGe (pA (eP2 pIdx (pA (eP2 pIdx (pN 1) (pN 4))) (pA (eC (.int 0))))) (pA (eP2 pIdx (pA (eP2 pIdx (pN 1) (pA (eP2 pAdd (pN 4) (pA (eC (.int 1))))))) (pA (eC (.int 0)))))))) [.v (eCr reach rows bar), .v (eLate late), .v (.bl true), .un, .un] S
      = .ok (.bl ((List.range (late.length - 1)).any fun k => decide (late[k + 1]!.1 ≤ late[k]!.1))) S := by
    refine any_lc (env0 := [.v (eCr reach rows bar), .v (eLate late), .v (.bl true), .un, .un]) (List.range (late.length - 1)) (fun (k : Nat) => .int (0 + (k : Int))) _ ?_ rfl (by simp; omega) fun k hk => ⟨[.v (eCr reach rows bar), .v (eLate late), .v (.bl true), .un, .v (.int (0 + (k : Int)))], rfl, ?_⟩
    · have ok : okN ((late.length : Int) - 1) = true := by
        unfold okN
        rw [Bool.and_eq_true]
        exact ⟨decide_eq_true (by omega), decide_eq_true (by omega)⟩
      simp [iR1, eP2, eP1, pN, pA, plOf, res, pLen, eC, pSub, R.bind, R.opt, rangeL, ok, eLate]
    · have hk : k < late.length - 1 := List.mem_range.mp hk
      have i1 := idx_t late eS (i := (0 + (k : Int))) (by omega) (by omega)
      have i2 := idx_t late eS (i := (0 + (k : Int)) + 1) (by omega) (by omega)
      have e0 : (0 + (k : Int)).toNat = k := by omega
      have e1 : (0 + (k : Int) + 1).toNat = k + 1 := by omega
      rw [e0] at i1
      rw [e1] at i2
      refine p2_ok (pA_ok (p2_ok (pA_ok (p2_ok pN_ok pN_ok i1)) (pA_ok eC_ok) rfl)) (pA_ok (p2_ok (pA_ok (p2_ok pN_ok (pA_ok (p2_ok pN_ok (pA_ok eC_ok) rfl)) i2)) (pA_ok eC_ok) rfl)) ?_
      rfl
  have a2 : ((List.range (late.length - 1)).any fun k => decide (late[k + 1]!.1 ≤ late[k]!.1)) = false := by
    rw [List.any_eq_false]
    intro k hk
    have hk : k < late.length - 1 := List.mem_range.mp hk
    have := List.pairwise_iff_getElem.mp h.p k (k + 1) (by omega) (by omega) (by omega)
    rw [getElem!_pos late k (by omega), getElem!_pos late (k + 1) (by omega)]
    simpa using this
  rw [show (late.all fun _ => true) = true by simp] at k1
  rw [a2] at k2
  refine run_nx (e := [.v (eCr reach rows bar), .v (eLate late), .v (.bl true), .un, .un]) (putS (v := .bl true) (env' := [.v (eCr reach rows bar), .v (eLate late), .v (.bl true), .un, .un]) (andT ?_ (andT ?_ k1)) rfl (ifF (orF (notT ?_) k2) rfl)) rfl
  · simp [eP1, pN, plOf, res, pIsi, pIsI, R.bind, R.opt, eLate]
  · have : (late.length : Int) ≤ 4 := by omega
    simp [eP2, eP1, pA, eC, pN, plOf, res, pLen, pLe, R.bind, R.opt, eLate, this]
  · rfl
/-! ### where each stands -/
def stoodP (rows : List (List St3)) (one beat : Int) (late : List St3) : St3 :=
  match late.find? (fun t => decide (t.1 = one) && decide (t.2.1 ≤ beat)) with
  | some t => rows[one.toNat]![((beat - t.2.2) % (rows[one.toNat]!.length : Int)).toNat]!
  | none => rows[one.toNat]![(beat % (rows[one.toNat]!.length : Int)).toNat]!
theorem emod_in {a : Int} {n : Nat} (h : 0 < n) : 0 ≤ a % (n : Int) ∧ a % (n : Int) < n := ⟨Int.emod_nonneg _ (by omega), Int.emod_lt_of_pos _ (by omega)⟩
theorem pl_row (r : List St3) : pLen (eRow r) = some (.int r.length) := by simp [pLen, eRow]
theorem pmod_ok {a b : Int} (h : 0 < b) : pMod (.int a) (.int b) = some (.int (a % b)) := by simp [pMod, h]
theorem ev_stood (S : Sto) {reach : Int} {rows : List (List St3)} {bar : List Int} (h : Good reach rows bar) (late : List St3) {one : Int} (beat : Int) (h0 : 0 ≤ one) (h1 : one < rows.length) : f_stood [eCr reach rows bar, .int one, .int beat, eLate late] S = .ok (eS (stoodP rows one beat late)) S := by
  have hlt : one.toNat < rows.length := by omega
  have hmem : rows[one.toNat]! ∈ rows := by rw [getElem!_pos rows _ hlt]; exact List.getElem_mem _
  generalize hrow : rows[one.toNat]! = row at hmem
  have l0 := h.l0 row hmem
  have ix : ∀ b : Int, pIdx (eRow row) (.int (b % (row.length : Int))) = some (eS row[(b % (row.length : Int)).toNat]!) := fun b => by
    obtain ⟨x, y⟩ := emod_in (a := b) (n := row.length) (by omega)
    exact idx_t row eS x y
  have lp : (0 : Int) < row.length := by omega
  have fd := for_find (g := tgT [5, 6, 7]) (body := (sSeq (sIf (eAnd (eP2 pEq (pN 5) (pN 1)) (eP2 pGe (pN 2) (pN 6))) (sSeq (sRet (eP2 pIdx (pN 4) (pA (eP2 pMod (pA (eP2 pSub (pN 2) (pN 7))) (pA (eP1 pLen (pN 4))))))) (sNil)) (sNil)) (sNil))) (S := S) eS (fun t => decide (t.1 = one) && decide (t.2.1 ≤ beat)) (fun t => eS row[((beat - t.2.2) % (row.length : Int)).toNat]!)
    (fun env => ∃ x y z, env = [.v (eCr reach rows bar), .v (.int one), .v (.int beat), .v (eLate late), .v (eRow row), x, y, z] ∧ nlk x ∧ nlk y ∧ nlk z) late (fun t _ env hI => by
      obtain ⟨x, y, z, rfl, hx, hy, hz⟩ := hI
      refine ⟨[.v (eCr reach rows bar), .v (.int one), .v (.int beat), .v (eLate late), .v (eRow row), .v (.int t.1), .v (.int t.2.1), .v (.int t.2.2)], ?_, ?_⟩
      · cases x <;> cases y <;> cases z <;> first | rfl | exact absurd rfl (hx _) | exact absurd rfl (hy _) | exact absurd rfl (hz _)
      · by_cases c1 : t.1 = one
        · by_cases c2 : t.2.1 ≤ beat
          · rw [if_pos (by simp [c1, c2])]
            rw [ifE (k := true) (by simp [eAnd, eP2, pN, plOf, res, pEq, PV.sh, PV.eq, pGe, R.bind, R.opt, c1, c2])]
            rw [if_pos rfl]
            exact seqRt (retS (p2_ok pN_ok (pA_ok (p2_ok (pA_ok (p2_ok pN_ok pN_ok rfl)) (pA_ok (p1_ok pN_ok (pl_row row))) (pmod_ok lp))) (ix (beat - t.2.2))))
          · rw [if_neg (by simp [c2])]
            refine ⟨_, ifF (by simp [eAnd, eP2, pN, plOf, res, pEq, PV.sh, PV.eq, pGe, R.bind, R.opt, c1, c2]) rfl, _, _, _, rfl, nlk_v _, nlk_v _, nlk_v _⟩
        · rw [if_neg (by simp [c1])]
          have cb : (t.1 == one) = false := by simpa using c1
          refine ⟨_, ifF (by simp [eAnd, eP2, pN, plOf, res, pEq, PV.sh, PV.eq, pGe, R.bind, R.opt, cb]) rfl, _, _, _, rfl, nlk_v _, nlk_v _, nlk_v _⟩) [.v (eCr reach rows bar), .v (.int one), .v (.int beat), .v (eLate late), .v (eRow row), .un, .un, .un] ⟨_, _, _, rfl, nlk_un, nlk_un, nlk_un⟩
  have it : iP (pN 3) [.v (eCr reach rows bar), .v (.int one), .v (.int beat), .v (eLate late), .v (eRow row), .un, .un, .un] S = .ok (late.map eS) S := by
    simp [iP, pN, plOf, R.bind, R.opt, itemsOf, eLate]
  have hput : eP2 pIdx (pA (eP2 pIdx (pN 0) (pA (eC (.int 1))))) (pN 1) [.v (eCr reach rows bar), .v (.int one), .v (.int beat), .v (eLate late), .un, .un, .un, .un] S = .ok (eRow row) S := by
    have := idx_t rows eRow h0 h1
    rw [hrow] at this
    exact p2_ok (pA_ok (p2_ok pN_ok (pA_ok eC_ok) rfl)) pN_ok this
  refine run_rt (putS hput rfl ?_) rfl
  unfold stoodP
  rw [hrow]
  cases hf : late.find? (fun t => decide (t.1 = one) && decide (t.2.1 ≤ beat)) with
  | some t =>
    rw [hf] at fd
    exact step_forR it fd
  | none =>
    rw [hf] at fd
    obtain ⟨env', f1, x, y, z, rfl, _⟩ := fd
    exact forS it f1 (retS (p2_ok pN_ok (pA_ok (p2_ok pN_ok (pA_ok (p1_ok pN_ok (pl_row row))) (pmod_ok lp))) (ix beat)))
end M01

set_option maxRecDepth 100000
set_option maxHeartbeats 1000000
namespace M01
open PySem Hw G01
theorem get_mem {α : Type} [Inhabited α] {l : List α} {i : Int} (h0 : 0 ≤ i) (h1 : i < l.length) : l[i.toNat]! ∈ l := by
  have : i.toNat < l.length := by omega
  rw [getElem!_pos l _ this]; exact List.getElem_mem _
theorem stood_mem {reach : Int} {rows : List (List St3)} {bar : List Int} (h : Good reach rows bar) (late : List St3) {one : Int} (beat : Int) (h0 : 0 ≤ one) (h1 : one < rows.length) : stoodP rows one beat late ∈ rows[one.toNat]! := by
  have hm := get_mem h0 h1
  have l0 := h.l0 _ hm
  unfold stoodP
  split
  · obtain ⟨x, y⟩ := emod_in (a := beat - (‹St3›).2.2) (n := rows[one.toNat]!.length) (by omega)
    exact get_mem x y
  · obtain ⟨x, y⟩ := emod_in (a := beat) (n := rows[one.toNat]!.length) (by omega)
    exact get_mem x y
theorem stood_ok {reach : Int} {rows : List (List St3)} {bar : List Int} (h : Good reach rows bar) (late : List St3) {one : Int} (beat : Int) (h0 : 0 ≤ one) (h1 : one < rows.length) : 0 ≤ (stoodP rows one beat late).2.2 ∧ (stoodP rows one beat late).2.2 ≤ 3 := by
  have := h.st _ (get_mem h0 h1) _ (stood_mem h late beat h0 h1)
  omega
def absI (i : Int) : Int := if i < 0 then -i else i
def wx (w : Int) : Int := if w = 0 then 1 else if w = 1 then 0 else if w = 2 then -1 else 0
def wy (w : Int) : Int := if w = 0 then 0 else if w = 1 then 1 else if w = 2 then 0 else -1
/-- one hears other -/
def hearP (reach : Int) (rows : List (List St3)) (one other beat : Int) (late : List St3) : Bool :=
  decide (one ≠ other) && (decide (absI ((stoodP rows other beat late).1 - (stoodP rows one beat late).1) + absI ((stoodP rows other beat late).2.1 - (stoodP rows one beat late).2.1) ≤ reach) &&
    decide (0 ≤ wx (stoodP rows one beat late).2.2 * ((stoodP rows other beat late).1 - (stoodP rows one beat late).1) + wy (stoodP rows one beat late).2.2 * ((stoodP rows other beat late).2.1 - (stoodP rows one beat late).2.1)))
theorem pEqI {a b : Int} : pEq (.int a) (.int b) = some (.bl (a == b)) := by simp [pEq, PV.sh, PV.eq]
theorem pNeI {a b : Int} : pNeK (.int a) (.int b) = some (.bl (!(a == b))) := by simp [pNeK, pNe, PV.sh, PV.eq]
theorem mul_s {a b : Int} (h : -5 < a ∧ a < 5) : pMul (.int a) (.int b) = some (.int (a * b)) := by
  have : cmulB a b = true := by
    unfold cmulB
    rw [Bool.or_eq_true, Bool.and_eq_true]
    exact .inl ⟨decide_eq_true (by omega), decide_eq_true (by omega)⟩
  simp [pMul, this]
theorem w_cases {w : Int} (h0 : 0 ≤ w) (h1 : w ≤ 3) : w = 0 ∨ w = 1 ∨ w = 2 ∨ w = 3 := by omega
theorem ways_ok {w : Int} (h0 : 0 ≤ w) (h1 : w ≤ 3) : pIdx (.tup [(.tup [(.int 1), (.int 0)]), (.tup [(.int 0), (.int 1)]), (.tup [(.int (-1)), (.int 0)]), (.tup [(.int 0), (.int (-1))])]) (.int w) = some (.tup [.int (wx w), .int (wy w)]) := by
  rcases w_cases h0 h1 with rfl | rfl | rfl | rfl <;> rfl
theorem w_small {w : Int} : -5 < wx w ∧ wx w < 5 ∧ -5 < wy w ∧ wy w < 5 := by
  unfold wx wy
  split
  · decide
  · split
    · decide
    · split <;> decide
theorem ev_heard (S : Sto) {reach : Int} {rows : List (List St3)} {bar : List Int} (h : Good reach rows bar) (late : List St3) {one other : Int} (beat : Int) (h0 : 0 ≤ one) (h1 : one < rows.length) (g0 : 0 ≤ other) (g1 : other < rows.length) :
    f_heard [eCr reach rows bar, .int one, .int other, .int beat, eLate late] S = .ok (.bl (hearP reach rows one other beat late)) S := by
  have e1 := ev_stood S h late beat h0 h1
  have e2 := ev_stood S h late beat g0 g1
  obtain ⟨w0, w1⟩ := stood_ok h late beat h0 h1
  unfold hearP
  generalize stoodP rows one beat late = s at *
  generalize stoodP rows other beat late = t at *
  obtain ⟨x, y, w⟩ := s
  obtain ⟨px, py, pw⟩ := t
  simp only at *
  obtain ⟨b1, b2, b3, b4⟩ := w_small (w := w)
  refine run_rt (putS (callS (aC eV_ok (aC eV_ok (aC eV_ok (aC eV_ok aN)))) e1) rfl (putS (callS (aC eV_ok (aC eV_ok (aC eV_ok (aC eV_ok aN)))) e2) rfl
    (parS (us := [.int (px - x), .int (py - y)]) (aC (p2_ok (pA_ok (p2_ok pN_ok (pA_ok eC_ok) rfl)) pN_ok rfl) (aC (p2_ok (pA_ok (p2_ok pN_ok (pA_ok eC_ok) rfl)) pN_ok rfl) aN)) rfl ?_))) rfl
  have hc : eOr (eP2 pEq (pN 1) (pN 2)) (eP2 pGt (pA (eP2 pAdd (pA (eP1 pAbs (pN 9))) (pA (eP1 pAbs (pN 10))))) (pA (eP2 pIdx (pN 0) (pA (eC (.int 0)))))) [.v (eCr reach rows bar), .v (.int one), .v (.int other), .v (.int beat), .v (eLate late), .v (eS (px, py, pw)), .v (.int x), .v (.int y), .v (.int w), .v (.int (px - x)), .v (.int (py - y))] S = .ok (.bl ((one == other) || decide (reach < absI (px - x) + absI (py - y)))) S := by
    have q1 : eP2 pEq (pN 1) (pN 2) [.v (eCr reach rows bar), .v (.int one), .v (.int other), .v (.int beat), .v (eLate late), .v (eS (px, py, pw)), .v (.int x), .v (.int y), .v (.int w), .v (.int (px - x)), .v (.int (py - y))] S = .ok (.bl (one == other)) S := p2_ok pN_ok pN_ok pEqI
    cases hb : (one == other) with
    | true => rw [hb] at q1; exact or_T q1
    | false =>
      rw [hb] at q1
      refine orF q1 (p2_ok (pA_ok (p2_ok (pA_ok (p1_ok pN_ok rfl)) (pA_ok (p1_ok pN_ok rfl)) rfl)) (pA_ok (p2_ok pN_ok (pA_ok eC_ok) rfl)) ?_)
      rfl
  refine (ifE hc).trans ?_
  by_cases c1 : one = other
  · rw [if_pos (by simp [c1])]
    exact (seqRt (retS rfl)).trans (by simp [c1])
  · by_cases c2 : reach < absI (px - x) + absI (py - y)
    · rw [if_pos (by simp [c2])]
      refine (seqRt (retS rfl)).trans ?_
      have : ¬ (absI (px - x) + absI (py - y) ≤ reach) := by omega
      simp [this]
    · rw [if_neg (by simp [c1, c2])]
      have c3 : absI (px - x) + absI (py - y) ≤ reach := by omega
      refine retS ?_
      have wy_ := ways_ok w0 w1
      refine p2_ok (pA_ok (p2_ok (pA_ok (p2_ok (pA_ok (p2_ok (pA_ok (p2_ok (pA_ok eC_ok) pN_ok wy_)) (pA_ok eC_ok) rfl)) pN_ok (mul_s ⟨b1, b2⟩))) (pA_ok (p2_ok (pA_ok (p2_ok (pA_ok (p2_ok (pA_ok eC_ok) pN_ok wy_)) (pA_ok eC_ok) rfl)) pN_ok (mul_s ⟨b3, b4⟩))) rfl)) (pA_ok eC_ok) ?_
      simp [pGe, c1, c3]
end M01

set_option maxRecDepth 100000
set_option maxHeartbeats 1000000
namespace M01
open PySem Hw G01
def eK (k : Nat) : PV := .int (0 + (k : Int))
def earsN (reach : Int) (rows : List (List St3)) (teller beat : Int) (late : List St3) : List Nat := (List.range rows.length).filter fun (k : Nat) => hearP reach rows (0 + (k : Int)) teller beat late
theorem okN_s {j : Int} (h0 : -1000 ≤ j) (h1 : j ≤ 1000000) : okN j = true := by
  unfold okN
  rw [Bool.and_eq_true]
  exact ⟨decide_eq_true (by omega), decide_eq_true (by omega)⟩
theorem r1_ok {d : Ex} {env : En} {S : Sto} {j : Int} (h : d env S = .ok (.int j) S) (h0 : -1000 ≤ j) (h1 : j ≤ 1000000) : iR1 d env S = .ok ((List.range j.toNat).map eK) S := by
  unfold iR1
  rw [h]
  simp only [R.bind]
  rw [if_pos (okN_s h0 h1)]
  rfl
theorem iP_t {p : Plx} {env : En} {S : Sto} {xs : List PV} (h : p env S = .ok (.val (.tup xs)) S) : iP p env S = .ok xs S := by simp [iP, h, R.bind, R.opt, itemsOf]
theorem iP_l {p : Plx} {env : En} {S : Sto} {xs : List PV} (h : p env S = .ok (.val (.lst xs)) S) : iP p env S = .ok xs S := by simp [iP, h, R.bind, R.opt, itemsOf]
theorem len_rows (reach : Int) (rows : List (List St3)) (bar : List Int) : pLen (.tup (rows.map eRow)) = some (.int rows.length) := by simp [pLen]
theorem ev_ears (S : Sto) {reach : Int} {rows : List (List St3)} {bar : List Int} (h : Good reach rows bar) (late : List St3) {teller : Int} (beat : Int) (g0 : 0 ≤ teller) (g1 : teller < rows.length) :
    f_ears [eCr reach rows bar, .int teller, .int beat, eLate late] S = .ok (.tup ((earsN reach rows teller beat late).map eK)) S := by
  refine run_rt (retS (p1_ok (u := .lst ((earsN reach rows teller beat late).map eK)) (pA_ok ?_ rfl) rfl)) rfl
  have n1 := h.n1
  refine elc (env0 := [.v (eCr reach rows bar), .v (.int teller), .v (.int beat), .v (eLate late), .un]) (List.range rows.length) eK (fun k => hearP reach rows (0 + (k : Int)) teller beat late) eK ?_ rfl (by simp; omega) fun k hk => ?_
  · refine (r1_ok (j := rows.length) (p1_ok (pA_ok (p2_ok pN_ok (pA_ok eC_ok) rfl) rfl) (len_rows reach rows bar)) (by omega) (by omega)).trans ?_
    rfl
  · have hk := List.mem_range.mp hk
    exact ⟨[.v (eCr reach rows bar), .v (.int teller), .v (.int beat), .v (eLate late), .v (eK k)], rfl, callS (aC eV_ok (aC eV_ok (aC eV_ok (aC eV_ok (aC eV_ok aN))))) (ev_heard S h late beat (by omega) (by omega) g0 g1), fun _ => rfl⟩
theorem bls_t {w : Int} {b0 b1 b2 b3 : Bool} (h0 : 0 ≤ w) (h1 : w ≤ 3) : pIdx (.lst [.bl b0, .bl b1, .bl b2, .bl b3]) (.int w) = some (.bl (if w = 0 then b0 else if w = 1 then b1 else if w = 2 then b2 else b3)) := by
  rcases w_cases h0 h1 with rfl | rfl | rfl | rfl <;> rfl
theorem law_stand_eq : f_law_stand = f_stood := rfl
theorem max_abs (a b : Int) : pMax2 (.int (a - b)) (.int (b - a)) = some (.int (absI (a - b))) := by
  have e : (if b - a > a - b then b - a else a - b) = (if a - b < 0 then -(a - b) else a - b) := by split <;> split <;> omega
  show some (PV.int (if b - a > a - b then b - a else a - b)) = some (PV.int (if a - b < 0 then -(a - b) else a - b))
  rw [e]
theorem lstS {ds : Exs} {env : En} {S : Sto} {us : List PV} (h : ds env S = .ok us S) (hl : us.length ≤ 1000 := by exact Nat.le_of_ble_eq_true rfl) : eLst ds env S = .ok (.lst us) S := by simp [eLst, h, R.bind, hl]
theorem tupS {ds : Exs} {env : En} {S : Sto} {us : List PV} (h : ds env S = .ok us S) (hl : us.length ≤ 1000 := by exact Nat.le_of_ble_eq_true rfl) : eTup ds env S = .ok (.tup us) S := by simp [eTup, h, R.bind, hl]
theorem ev_law_hears (S : Sto) {reach : Int} {rows : List (List St3)} {bar : List Int} (h : Good reach rows bar) (late : List St3) {one other : Int} (beat : Int) (h0 : 0 ≤ one) (h1 : one < rows.length) (g0 : 0 ≤ other) (g1 : other < rows.length) :
    f_law_hears [eCr reach rows bar, .int one, .int other, .int beat, eLate late] S = .ok (.bl (hearP reach rows one other beat late)) S := by
  have e1 := ev_stood S h late beat h0 h1
  have e2 := ev_stood S h late beat g0 g1
  rw [← law_stand_eq] at e1 e2
  obtain ⟨w0, w1⟩ := stood_ok h late beat h0 h1
  unfold hearP
  generalize stoodP rows one beat late = s at *
  generalize stoodP rows other beat late = t at *
  obtain ⟨x, y, w⟩ := s
  obtain ⟨px, py, pw⟩ := t
  simp only at *
  refine run_rt (putS (callS (aC eV_ok (aC eV_ok (aC eV_ok (aC eV_ok aN)))) e1) rfl (putS (callS (aC eV_ok (aC eV_ok (aC eV_ok (aC eV_ok aN)))) e2) rfl
    (putS (v := .int (absI (px - x) + absI (py - y))) (p2_ok (pA_ok (p2_ok (pA_ok (p2_ok pN_ok pN_ok rfl)) (pA_ok (p2_ok pN_ok pN_ok rfl)) (max_abs px x))) (pA_ok (p2_ok (pA_ok (p2_ok pN_ok pN_ok rfl)) (pA_ok (p2_ok pN_ok pN_ok rfl)) (max_abs py y))) rfl) rfl
      (putS (p2_ok (pA_ok (lstS (aC (p2_ok pN_ok pN_ok rfl) (aC (p2_ok pN_ok pN_ok rfl) (aC (p2_ok pN_ok pN_ok rfl) (aC (p2_ok pN_ok pN_ok rfl) aN)))))) pN_ok (bls_t w0 w1)) rfl (retS ?_))))) rfl
  by_cases c1 : one = other
  · refine (and_F (S' := S) ((p2_ok pN_ok pN_ok pNeI).trans (by simp [c1]))).trans (by simp [c1])
  · refine andT ((p2_ok pN_ok pN_ok pNeI).trans (by simp [c1])) ?_
    have q : eP2 pLe (pN 5) (pA (eP2 pIdx (pN 0) (pA (eC (.int 0))))) [.v (eCr reach rows bar), .v (.int one), .v (.int other), .v (.int beat), .v (eLate late), .v (.int (absI (px - x) + absI (py - y))), .v (.bl (if w = 0 then decide (x ≤ px) else if w = 1 then decide (y ≤ py) else if w = 2 then decide (px ≤ x) else decide (py ≤ y))), .v (.int x), .v (.int y), .v (.int w), .v (.int px), .v (.int py), .v (.int pw)] S = .ok (.bl (decide (absI (px - x) + absI (py - y) ≤ reach))) S := p2_ok pN_ok (pA_ok (p2_ok pN_ok (pA_ok eC_ok) rfl)) rfl
    by_cases c2 : absI (px - x) + absI (py - y) ≤ reach
    · rw [decide_eq_true c2] at q
      refine andT q ((eV_ok (h := rfl)).trans ?_)
      rw [show decide (one ≠ other) = true by simp [c1], decide_eq_true c2]
      congr 2
      rcases w_cases w0 w1 with rfl | rfl | rfl | rfl <;> simp [wx, wy] <;> omega
    · rw [decide_eq_false c2] at q
      exact (and_F q).trans (by simp [c2])
theorem ev_law_ears (S : Sto) {reach : Int} {rows : List (List St3)} {bar : List Int} (h : Good reach rows bar) (late : List St3) {teller : Int} (beat : Int) (g0 : 0 ≤ teller) (g1 : teller < rows.length) :
    f_law_ears [eCr reach rows bar, .int teller, .int beat, eLate late] S = .ok (.lst ((earsN reach rows teller beat late).map eK)) S := by
  have n1 := h.n1
  refine run_rt (retS (elc (env0 := [.v (eCr reach rows bar), .v (.int teller), .v (.int beat), .v (eLate late), .un]) (List.range rows.length) eK (fun k => hearP reach rows (0 + (k : Int)) teller beat late) eK ?_ rfl (by simp; omega) fun k hk => ?_)) rfl
  · refine (r1_ok (j := rows.length) (p1_ok (pA_ok (p2_ok pN_ok (pA_ok eC_ok) rfl) rfl) (len_rows reach rows bar)) (by omega) (by omega)).trans ?_
    rfl
  · have hk := List.mem_range.mp hk
    exact ⟨[.v (eCr reach rows bar), .v (.int teller), .v (.int beat), .v (eLate late), .v (eK k)], rfl, callS (aC eV_ok (aC eV_ok (aC eV_ok (aC eV_ok (aC eV_ok aN))))) (ev_law_hears S h late beat (by omega) (by omega) g0 g1), fun _ => rfl⟩
/-! ### who may tell -/
def inB (bar : List Int) (a : Int) : Bool := bar.any fun b => b == a
theorem flat_ints : ∀ l : List Int, (l.map PV.int).all flatP = true
  | [] => rfl
  | a :: l => by simp [flatP, flat_ints l]
theorem in_t (bar : List Int) (a : Int) : pInX (.int a) (.tup (bar.map .int)) = some (.bl (inB bar a)) := by
  unfold pInX inB
  simp only [flat_ints]
  rw [if_pos (by rfl)]
  simp [List.any_map, Function.comp_def, PV.eq]
def mayP (reach : Int) (rows : List (List St3)) (bar : List Int) (teller beat : Int) (late : List St3) : Bool := !inB bar teller && !(earsN reach rows teller beat late).any fun k => inB bar (0 + (k : Int))
theorem ears_le {reach : Int} {rows : List (List St3)} {teller beat : Int} {late : List St3} : (earsN reach rows teller beat late).length ≤ rows.length := by
  unfold earsN
  exact Nat.le_trans (List.length_filter_le _ _) (by simp)
theorem ev_may_tell (S : Sto) {reach : Int} {rows : List (List St3)} {bar : List Int} (h : Good reach rows bar) (late : List St3) {teller : Int} (beat : Int) (g0 : 0 ≤ teller) (g1 : teller < rows.length) :
    f_may_tell [eCr reach rows bar, .int teller, .int beat, eLate late] S = .ok (.bl (mayP reach rows bar teller beat late)) S := by
  have n1 := h.n1
  have le := ears_le (reach := reach) (rows := rows) (teller := teller) (beat := beat) (late := late)
  have hc : eP2 pInX (pN 1) (pA (eP2 pIdx (pN 0) (pA (eC (.int 2))))) [.v (eCr reach rows bar), .v (.int teller), .v (.int beat), .v (eLate late), .un] S = .ok (.bl (inB bar teller)) S := p2_ok pN_ok (pA_ok (p2_ok pN_ok (pA_ok eC_ok) rfl) rfl) (in_t bar teller)
  refine run_rt ((ifE hc).trans ?_) rfl
  unfold mayP
  cases inB bar teller with
  | true => exact (if_pos rfl).trans (seqRt (retS rfl))
  | false =>
    refine (if_neg Bool.false_ne_true).trans (retS ?_)
    refine (not_ok (b := (earsN reach rows teller beat late).any fun k => inB bar (0 + (k : Int))) ?_).trans rfl
    refine any_lc (env0 := [.v (eCr reach rows bar), .v (.int teller), .v (.int beat), .v (eLate late), .un]) (earsN reach rows teller beat late) eK _ (iP_t ?_) rfl (by omega) fun k hk => ⟨[.v (eCr reach rows bar), .v (.int teller), .v (.int beat), .v (eLate late), .v (eK k)], rfl, p2_ok pN_ok (pA_ok (p2_ok pN_ok (pA_ok eC_ok) rfl) rfl) (in_t bar _)⟩
    unfold pA
    rw [callS (aC eV_ok (aC eV_ok (aC eV_ok (aC eV_ok aN)))) (ev_ears S h late beat g0 g1)]
    rfl
theorem sh_eK : ∀ (l : List Nat) (n : Nat), PV.shL (l.map eK) n = true
  | [], _ => rfl
  | a :: l, n => by
    show (PV.sh (eK a) n && PV.shL (l.map eK) n) = true
    rw [sh_eK l n]; rfl
theorem ne_nil (l : List Nat) : pNeK (.lst (l.map eK)) (.lst []) = some (.bl (!l.isEmpty)) := by
  have : (PV.lst (l.map eK)).sh 16 = true := sh_eK l 15
  simp only [pNeK, pNe, this]
  cases l <;> rfl
theorem filt_any {α : Type} (p : α → Bool) : ∀ l : List α, (!(l.filter p).isEmpty) = l.any p
  | [] => rfl
  | a :: l => by
    simp only [List.filter_cons, List.any_cons]
    cases p a with
    | true => simp
    | false => simpa using filt_any p l
theorem ev_law_let (S : Sto) {reach : Int} {rows : List (List St3)} {bar : List Int} (h : Good reach rows bar) (late : List St3) {teller : Int} (beat : Int) (g0 : 0 ≤ teller) (g1 : teller < rows.length) :
    f_law_let [eCr reach rows bar, .int teller, .int beat, eLate late] S = .ok (if mayP reach rows bar teller beat late then .lst ((earsN reach rows teller beat late).map eK) else .non) S := by
  have n1 := h.n1
  have le := ears_le (reach := reach) (rows := rows) (teller := teller) (beat := beat) (late := late)
  have e1 := ev_law_ears S h late beat g0 g1
  unfold mayP
  generalize earsN reach rows teller beat late = ks at *
  refine run_rt (putS (callS (aC eV_ok (aC eV_ok (aC eV_ok (aC eV_ok aN)))) e1) rfl ?_) rfl
  have hc : eOr (eP2 pInX (pN 1) (pA (eP2 pIdx (pN 0) (pA (eC (.int 2)))))) (eP2 pNeK (pA (eLC (iP (pN 4)) [5] (tgN 5) (eP2 pInX (pN 5) (pA (eP2 pIdx (pN 0) (pA (eC (.int 2)))))) (eVar 5))) (pA (eLst (esNil)))) [.v (eCr reach rows bar), .v (.int teller), .v (.int beat), .v (eLate late), .v (.lst (ks.map eK)), .un] S = .ok (.bl (inB bar teller || ks.any fun k => inB bar (0 + (k : Int)))) S := by
    have q : eP2 pInX (pN 1) (pA (eP2 pIdx (pN 0) (pA (eC (.int 2))))) [.v (eCr reach rows bar), .v (.int teller), .v (.int beat), .v (eLate late), .v (.lst (ks.map eK)), .un] S = .ok (.bl (inB bar teller)) S := p2_ok pN_ok (pA_ok (p2_ok pN_ok (pA_ok eC_ok) rfl) rfl) (in_t bar teller)
    cases hb : inB bar teller with
    | true => rw [hb] at q; exact or_T q
    | false =>
      rw [hb] at q
      refine orF q ?_
      have q2 := elc (it := iP (pN 4)) (vs := [5]) (g := tgN 5) (c := eP2 pInX (pN 5) (pA (eP2 pIdx (pN 0) (pA (eC (.int 2)))))) (e := eVar 5) (env := [.v (eCr reach rows bar), .v (.int teller), .v (.int beat), .v (eLate late), .v (.lst (ks.map eK)), .un]) (env0 := [.v (eCr reach rows bar), .v (.int teller), .v (.int beat), .v (eLate late), .v (.lst (ks.map eK)), .un]) (S := S) ks eK (fun k => inB bar (0 + (k : Int))) eK (iP_l rfl) rfl (by omega) fun k hk =>
        ⟨[.v (eCr reach rows bar), .v (.int teller), .v (.int beat), .v (eLate late), .v (.lst (ks.map eK)), .v (eK k)], rfl, p2_ok pN_ok (pA_ok (p2_ok pN_ok (pA_ok eC_ok) rfl) rfl) (in_t bar _), fun _ => rfl⟩
      refine (p2_ok (pA_ok q2 rfl) (pA_ok (lstS aN)) (ne_nil _)).trans ?_
      rw [filt_any, Bool.false_or]
  refine (ifE hc).trans ?_
  cases inB bar teller <;> cases (ks.any fun k => inB bar (0 + (k : Int))) <;> first | exact (if_pos rfl).trans (seqRt (retS rfl)) | exact (if_neg Bool.false_ne_true).trans (retS rfl)
end M01

set_option maxRecDepth 100000
set_option maxHeartbeats 1000000
namespace M01
open PySem Hw G01
section
variable {reach : Int} {rows : List (List St3)} {bar : List Int} {late : List St3} {one beat : Int}
theorem ev_stand (S : Sto) (h : Good reach rows bar) (hl : GoodL rows.length late) (h0 : 0 ≤ one) (h1 : one < rows.length) (b0 : 0 ≤ beat) (b1 : beat ≤ 1000000000000) : f_stand [eCr reach rows bar, .int one, .int beat, eLate late] S = .ok (eS (stoodP rows one beat late)) S :=
  run_rt (exS (callS (aC eV_ok aN) (ev_look_crowd S h)) (exS (callS (aC eV_ok (aC eV_ok aN)) (ev_look_one S h0 h1)) (exS (callS (aC eV_ok aN) (ev_look_beat S beat ⟨b0, b1⟩)) (exS (callS (aC eV_ok (aC eV_ok aN)) (ev_look_lates S hl)) (retS (callS (aC eV_ok (aC eV_ok (aC eV_ok (aC eV_ok aN)))) (ev_stood S h late beat h0 h1))))))) rfl
theorem ev_hearers (S : Sto) (h : Good reach rows bar) (hl : GoodL rows.length late) (h0 : 0 ≤ one) (h1 : one < rows.length) (b0 : 0 ≤ beat) (b1 : beat ≤ 1000000000000) : f_hearers [eCr reach rows bar, .int one, .int beat, eLate late] S = .ok (.tup ((earsN reach rows one beat late).map eK)) S :=
  run_rt (exS (callS (aC eV_ok aN) (ev_look_crowd S h)) (exS (callS (aC eV_ok (aC eV_ok aN)) (ev_look_one S h0 h1)) (exS (callS (aC eV_ok aN) (ev_look_beat S beat ⟨b0, b1⟩)) (exS (callS (aC eV_ok (aC eV_ok aN)) (ev_look_lates S hl)) (retS (callS (aC eV_ok (aC eV_ok (aC eV_ok (aC eV_ok aN)))) (ev_ears S h late beat h0 h1))))))) rfl
theorem ev_is_let (S : Sto) (h : Good reach rows bar) (hl : GoodL rows.length late) (h0 : 0 ≤ one) (h1 : one < rows.length) (b0 : 0 ≤ beat) (b1 : beat ≤ 1000000000000) : f_is_let [eCr reach rows bar, .int one, .int beat, eLate late] S = .ok (.bl (mayP reach rows bar one beat late)) S :=
  run_rt (exS (callS (aC eV_ok aN) (ev_look_crowd S h)) (exS (callS (aC eV_ok (aC eV_ok aN)) (ev_look_one S h0 h1)) (exS (callS (aC eV_ok aN) (ev_look_beat S beat ⟨b0, b1⟩)) (exS (callS (aC eV_ok (aC eV_ok aN)) (ev_look_lates S hl)) (retS (callS (aC eV_ok (aC eV_ok (aC eV_ok (aC eV_ok aN)))) (ev_may_tell S h late beat h0 h1))))))) rfl
theorem goodL_nil (n : Nat) : GoodL n [] := ⟨by simp, fun t h => by simp at h, .nil⟩
end
/-! ### gcd, lcm -/
theorem whileS {c : Ex} {a r : Sm} {env env' : En} {S : Sto} {q : RS} (h : whileLoop c a fuel env S = .nx env' S) (h2 : r env' S = q) : sSeq (sWhile c a) r env S = q := by simp [sSeq, sWhile, h, h2]
theorem while_T {c : Ex} {a : Sm} {env env' : En} {S : Sto} {n : Nat} (h : c env S = .ok (.bl true) S) (h2 : a env S = .nx env' S) : whileLoop c a (n + 1) env S = whileLoop c a n env' S := by simp [whileLoop, h, h2]
theorem while_F {c : Ex} {a : Sm} {env : En} {S : Sto} {n : Nat} (h : c env S = .ok (.bl false) S) : whileLoop c a (n + 1) env S = .nx env S := by simp [whileLoop, h]
theorem common_loop (S : Sto) : ∀ (n m k : Nat), n < k → whileLoop (eP2 pNeK (pN 1) (pA (eC (.int 0)))) (sSeq (sPar [0, 1] (esCons (eVar 1) (esCons (eP2 pMod (pN 0) (pN 1)) (esNil)))) (sNil)) k [.v (.int (m : Int)), .v (.int (n : Int))] S = .nx [.v (.int (Nat.gcd m n : Int)), .v (.int 0)] S := by
  intro n
  induction n using Nat.strongRecOn with
  | ind n ih =>
    intro m k hk
    cases k with
    | zero => omega
    | succ k =>
      have hc : eP2 pNeK (pN 1) (pA (eC (.int 0))) [.v (.int (m : Int)), .v (.int (n : Int))] S = .ok (.bl (!((n : Int) == 0))) S := p2_ok pN_ok (pA_ok eC_ok) pNeI
      cases n with
      | zero => exact (while_F hc).trans (by simp)
      | succ n =>
        refine (while_T (env' := [.v (.int ((n + 1 : Nat) : Int)), .v (.int ((m % (n + 1) : Nat) : Int))]) (hc.trans ?_) ?_).trans ?_
        · congr 2
        · refine (parS (us := [.int ((n + 1 : Nat) : Int), .int ((m % (n + 1) : Nat) : Int)]) (aC eV_ok (aC (p2_ok pN_ok pN_ok ?_) aN)) rfl rfl)
          have : (0 : Int) < ((n + 1 : Nat) : Int) := by omega
          rw [pmod_ok this]
          rfl
        · have lt : m % (n + 1) < n + 1 := Nat.mod_lt _ (by omega)
          rw [ih (m % (n + 1)) lt (n + 1) k (by omega)]
          have e : Nat.gcd m (n + 1) = Nat.gcd (n + 1) (m % (n + 1)) := by
            rw [Nat.gcd_comm m (n + 1), Nat.gcd_rec (n + 1) m, Nat.gcd_comm]
          rw [e]
theorem ev_common (S : Sto) (m n : Nat) (h : n < 1000000) : f_common [.int (m : Int), .int (n : Int)] S = .ok (.int (Nat.gcd m n : Int)) S :=
  run_rt (whileS (common_loop S n m fuel h) (retS rfl)) rfl
def lcmL (rows : List (List St3)) (f : Nat) : Nat := rows.foldl (fun f r => Nat.lcm f r.length) f
theorem lcm_60 {a b : Nat} (ha : a ∣ 60) (h0 : 1 ≤ b) (h1 : b ≤ 6) : Nat.lcm a b ∣ 60 := by
  refine Nat.lcm_dvd ha ?_
  have : b = 1 ∨ b = 2 ∨ b = 3 ∨ b = 4 ∨ b = 5 ∨ b = 6 := by omega
  rcases this with rfl | rfl | rfl | rfl | rfl | rfl <;> decide
theorem lcmL_60 : ∀ (rows : List (List St3)) (f : Nat), (∀ r ∈ rows, 1 ≤ r.length ∧ r.length ≤ 6) → f ∣ 60 → lcmL rows f ∣ 60
  | [], f, _, h => h
  | r :: rows, f, hr, h => lcmL_60 rows _ (fun q hq => hr q (by simp [hq])) (lcm_60 h (hr r (by simp)).1 (hr r (by simp)).2)
theorem dvd_lcmL : ∀ (rows : List (List St3)) (f : Nat), f ∣ lcmL rows f ∧ ∀ r ∈ rows, r.length ∣ lcmL rows f
  | [], f => ⟨Nat.dvd_refl _, fun r h => by simp at h⟩
  | r :: rows, f => by
    obtain ⟨h1, h2⟩ := dvd_lcmL rows (Nat.lcm f r.length)
    refine ⟨Nat.dvd_trans (Nat.dvd_lcm_left _ _) h1, fun q hq => ?_⟩
    rcases List.mem_cons.mp hq with rfl | hq
    · exact Nat.dvd_trans (Nat.dvd_lcm_right _ _) h1
    · exact h2 q hq
theorem lcmL_dvd {n : Nat} : ∀ (rows : List (List St3)) (f : Nat), f ∣ n → (∀ r ∈ rows, r.length ∣ n) → lcmL rows f ∣ n
  | [], f, h, _ => h
  | r :: rows, f, h, hr => lcmL_dvd rows _ (Nat.lcm_dvd h (hr r (by simp))) fun q hq => hr q (by simp [hq])
theorem pos_60 {a : Nat} (h : a ∣ 60) : 1 ≤ a ∧ a ≤ 60 := ⟨Nat.pos_of_dvd_of_pos h (by decide), Nat.le_of_dvd (by decide) h⟩
theorem lcm_div (f n : Nat) : ((f : Int) * (n : Int)) / (Nat.gcd f n : Int) = ((Nat.lcm f n : Nat) : Int) := by
  unfold Nat.lcm
  rw [Int.natCast_ediv, Int.natCast_mul]
theorem round_step (S : Sto) (x0 x2 : PV) (r : List St3) (f : Nat) (f0 : 1 ≤ f) (f1 : f ≤ 60) (l1 : r.length ≤ 6) :
    sSeq (sPut (tgN 1) (eP2 pDiv (pA (eP2 pMul (pN 1) (pA (eP1 pLen (pN 3))))) (pA (eCall f_common (esCons (eVar 1) (esCons (eP1 pLen (pN 3)) (esNil))))))) (sNil) [.v x0, .v (.int (f : Int)), .v x2, .v (eRow r)] S = .nx [.v x0, .v (.int (Nat.lcm f r.length : Int)), .v x2, .v (eRow r)] S := by
  have g0 : 0 < Nat.gcd f r.length := Nat.gcd_pos_of_pos_left _ (by omega)
  have g1 : Nat.gcd f r.length ≤ f := Nat.le_of_dvd (by omega) (Nat.gcd_dvd_left _ _)
  have hm : pMul (.int (f : Int)) (.int (r.length : Int)) = some (.int ((f : Int) * (r.length : Int))) := by
    have : cmulB (f : Int) (r.length : Int) = true := by
      unfold cmulB
      rw [Bool.or_eq_true, Bool.and_eq_true]
      exact .inl ⟨decide_eq_true (by omega), decide_eq_true (by omega)⟩
    unfold pMul
    exact if_pos this
  have hd : pDiv (.int ((f : Int) * (r.length : Int))) (.int (Nat.gcd f r.length : Int)) = some (.int (Nat.lcm f r.length : Int)) := by
    have : (0 : Int) < (Nat.gcd f r.length : Int) ∧ (Nat.gcd f r.length : Int) < 1073741824 := by omega
    rw [← lcm_div]
    unfold pDiv
    exact if_pos this
  have hc : eCall f_common (esCons (eVar 1) (esCons (eP1 pLen (pN 3)) (esNil))) [.v x0, .v (.int (f : Int)), .v x2, .v (eRow r)] S = .ok (.int (Nat.gcd f r.length : Int)) S := callS (aC eV_ok (aC (p1_ok pN_ok (pl_row r)) aN)) (ev_common S f r.length (by omega))
  exact putS (p2_ok (pA_ok (p2_ok pN_ok (pA_ok (p1_ok pN_ok (pl_row r))) hm)) (pA_ok hc) hd) rfl rfl
theorem tg3 (x0 : PV) (f : PV) (x2 : PV) (x3 : SV) (v : PV) (h : nlk x3) : tgN 3 v [.v x0, .v f, .v x2, x3] = some [SV.v x0, .v f, .v x2, .v v] := by
  cases x3 <;> first | rfl | exact absurd rfl (h _)
theorem for_cons {g : Tgt} {body : Sm} {x : PV} {xs : List PV} {env env1 env2 : En} {S S2 : Sto} (h1 : g x env = some env1) (h2 : body env1 S = .nx env2 S2) : forLoop g body (x :: xs) env S = forLoop g body xs env2 S2 := by
  simp only [forLoop, h1, h2]
theorem round_in (S : Sto) (x0 : PV) (x2 : PV) (rows : List (List St3)) : ∀ (f : Nat) (x3 : SV), (∀ r ∈ rows, 1 ≤ r.length ∧ r.length ≤ 6) → f ∣ 60 → nlk x3 →
    ∃ y3, nlk y3 ∧ forLoop (tgN 3) (sSeq (sPut (tgN 1) (eP2 pDiv (pA (eP2 pMul (pN 1) (pA (eP1 pLen (pN 3))))) (pA (eCall f_common (esCons (eVar 1) (esCons (eP1 pLen (pN 3)) (esNil))))))) (sNil)) (rows.map eRow) [.v x0, .v (.int (f : Int)), .v x2, x3] S = .nx [.v x0, .v (.int (lcmL rows f : Int)), .v x2, y3] S := by
  induction rows with
  | nil => exact fun f x3 _ _ h => ⟨x3, h, rfl⟩
  | cons r rows ih =>
    intro f x3 hr hf h
    obtain ⟨l0, l1⟩ := hr r (by simp)
    obtain ⟨f0, f1⟩ := pos_60 hf
    obtain ⟨y3, hy, e⟩ := ih (Nat.lcm f r.length) (.v (eRow r)) (fun q hq => hr q (by simp [hq])) (lcm_60 hf l0 l1) (nlk_v _)
    exact ⟨y3, hy, (for_cons (tg3 x0 _ x2 x3 _ h) (round_step S x0 x2 r f f0 f1 l1)).trans e⟩
theorem ev_round_of (S : Sto) {reach : Int} {rows : List (List St3)} {bar : List Int} (h : Good reach rows bar) : f_round_of [.lst [eCr reach rows bar]] S = .ok (.int (lcmL rows 1 : Int)) S := by
  have hr : ∀ r ∈ rows, 1 ≤ r.length ∧ r.length ≤ 6 := fun r hr => ⟨h.l0 r hr, h.l1 r hr⟩
  obtain ⟨y3, hy, e1⟩ := round_in S (.lst [eCr reach rows bar]) (eCr reach rows bar) rows 1 .un hr (by decide) nlk_un
  have hb := forS (r := sNil) (q := .nx [.v (.lst [eCr reach rows bar]), .v (.int (lcmL rows 1 : Int)), .v (eCr reach rows bar), y3] S) (it := iP (pA (eP2 pIdx (pN 2) (pA (eC (.int 1)))))) (xs := rows.map eRow) (iP_t (by
    unfold pA
    rw [p2_ok (u := eCr reach rows bar) (v := .int 1) (z := .tup (rows.map eRow)) pN_ok ⟨_, rfl, rfl⟩ rfl]
    rfl)) e1 rfl
  exact run_rt (putS eC_ok rfl (forS (env' := [.v (.lst [eCr reach rows bar]), .v (.int (lcmL rows 1 : Int)), .v (eCr reach rows bar), y3]) (iP_l rfl) ((for_cons rfl hb).trans rfl) (retS rfl))) rfl
theorem ev_joint_round (S : Sto) {reach : Int} {rows : List (List St3)} {bar : List Int} (h : Good reach rows bar) : f_joint_round [eCr reach rows bar] S = .ok (.int (lcmL rows 1 : Int)) S :=
  run_rt (exS (callS (aC eV_ok aN) (ev_look_crowd S h)) (retS (callS (aC (lstS (aC eV_ok aN)) aN) (ev_round_of S h)))) rfl
end M01

set_option maxRecDepth 100000
set_option maxHeartbeats 1000000
namespace M01
open PySem Hw G01
def eLen (r : List St3) : PV := .int r.length
theorem sh_int {α : Type} (enc : α → PV) (he : ∀ a, ∃ i, enc a = .int i) (n : Nat) : ∀ l : List α, PV.shL (l.map enc) n = true
  | [] => rfl
  | a :: l => by
    show (PV.sh (enc a) n && PV.shL (l.map enc) n) = true
    obtain ⟨i, e⟩ := he a
    rw [sh_int enc he n l, e]; rfl
theorem ne_nilG {xs : List PV} (h : PV.shL xs 15 = true) : pNeK (.lst xs) (.lst []) = some (.bl (!xs.isEmpty)) := by
  have : (PV.lst xs).sh 16 = true := h
  simp only [pNeK, pNe, this]
  cases xs <;> rfl
theorem size_loop (S : Sto) (x0 x2 : PV) (rows : List (List St3)) (hr : ∀ r ∈ rows, 1 ≤ r.length) (hl : rows.length ≤ 1000) (s4 s5 : SV) (h4 : s4 = .un) (h5 : s5 = .un) : ∀ (k n : Nat), 1 ≤ n → n ≤ lcmL rows 1 → lcmL rows 1 - n < k →
    whileLoop (eP2 pNeK (pA (eLC (iP (pN 1)) [4] (tgN 4) (eP2 pNeK (pA (eP2 pMod (pN 3) (pN 4))) (pA (eC (.int 0)))) (eVar 4))) (pA (eLst (esNil)))) (sSeq (sPut (tgN 3) (eP2 pAdd (pN 3) (pA (eC (.int 1))))) (sNil)) k [.v x0, .v (.lst (rows.map eLen)), .v x2, .v (.int (n : Int)), s4, s5] S
      = .nx [.v x0, .v (.lst (rows.map eLen)), .v x2, .v (.int (lcmL rows 1 : Int)), s4, s5] S := by
  subst h4 h5
  intro k
  induction k with
  | zero => intro n _ _ h; omega
  | succ k ih =>
    intro n n1 n2 hk
    have hc : eP2 pNeK (pA (eLC (iP (pN 1)) [4] (tgN 4) (eP2 pNeK (pA (eP2 pMod (pN 3) (pN 4))) (pA (eC (.int 0)))) (eVar 4))) (pA (eLst (esNil))) [.v x0, .v (.lst (rows.map eLen)), .v x2, .v (.int (n : Int)), .un, .un] S = .ok (.bl (rows.any fun r => !(((n : Int) % (r.length : Int)) == 0))) S := by
      rw [← filt_any]
      have q := elc (it := iP (pN 1)) (vs := [4]) (g := tgN 4) (c := eP2 pNeK (pA (eP2 pMod (pN 3) (pN 4))) (pA (eC (.int 0)))) (e := eVar 4) (env := [.v x0, .v (.lst (rows.map eLen)), .v x2, .v (.int (n : Int)), .un, .un]) (env0 := [.v x0, .v (.lst (rows.map eLen)), .v x2, .v (.int (n : Int)), .un, .un]) (S := S) rows eLen (fun r => !(((n : Int) % (r.length : Int)) == 0)) eLen (iP_l rfl) rfl (by omega) fun r hm =>
        ⟨[.v x0, .v (.lst (rows.map eLen)), .v x2, .v (.int (n : Int)), .v (eLen r), .un], rfl, p2_ok (pA_ok (p2_ok pN_ok pN_ok (pmod_ok (by have := hr r hm; omega)))) (pA_ok eC_ok) pNeI, fun _ => rfl⟩
      refine (p2_ok (pA_ok q rfl) (pA_ok (lstS aN)) (ne_nilG (sh_int eLen (fun r => ⟨_, rfl⟩) 15 _))).trans ?_
      congr 2
      cases rows.filter fun r => !(((n : Int) % (r.length : Int)) == 0) <;> rfl
    by_cases he : n = lcmL rows 1
    · have : (rows.any fun r => !(((n : Int) % (r.length : Int)) == 0)) = false := by
        rw [List.any_eq_false]
        intro r hm
        have hd := (dvd_lcmL rows 1).2 r hm
        rw [← he] at hd
        have : (n : Int) % (r.length : Int) = 0 := Int.emod_eq_zero_of_dvd (Int.natCast_dvd_natCast.mpr hd)
        simp [this]
      rw [this] at hc
      rw [← he]
      exact while_F hc
    · have : (rows.any fun r => !(((n : Int) % (r.length : Int)) == 0)) = true := by
        cases hn : (rows.any fun r => !(((n : Int) % (r.length : Int)) == 0)) with
        | true => rfl
        | false =>
          rw [List.any_eq_false] at hn
          have hd : lcmL rows 1 ∣ n := lcmL_dvd rows 1 (Nat.one_dvd _) fun r hm => by
            have z := hn r hm
            have z : (n : Int) % (r.length : Int) = 0 := by simpa using z
            exact Int.natCast_dvd_natCast.mp (Int.dvd_of_emod_eq_zero z)
          have := Nat.le_of_dvd (by omega) hd
          omega
      rw [this] at hc
      refine (while_T (env' := [.v x0, .v (.lst (rows.map eLen)), .v x2, .v (.int ((n + 1 : Nat) : Int)), .un, .un]) hc (putS (p2_ok pN_ok (pA_ok eC_ok) rfl) rfl rfl)).trans (ih (n + 1) (by omega) (by omega) (by omega))
theorem ev_law_size (S : Sto) {reach : Int} {rows : List (List St3)} {bar : List Int} (h : Good reach rows bar) : f_law_size [.lst [eCr reach rows bar]] S = .ok (.int (lcmL rows 1 : Int)) S := by
  have n1 := h.n1
  have hr : ∀ r ∈ rows, 1 ≤ r.length ∧ r.length ≤ 6 := fun r hr => ⟨h.l0 r hr, h.l1 r hr⟩
  obtain ⟨p0, p1⟩ := pos_60 (lcmL_60 rows 1 hr (by decide))
  have hb : sSeq (sPut (tgN 1) (eP2 pAdd (pN 1) (pA (eLC (iP (pA (eP2 pIdx (pN 2) (pA (eC (.int 1)))))) [5] (tgN 5) (eYes) (eP1 pLen (pN 5)))))) (sNil) [.v (.lst [eCr reach rows bar]), .v (.lst []), .v (eCr reach rows bar), .un, .un, .un] S = .nx [.v (.lst [eCr reach rows bar]), .v (.lst (rows.map eLen)), .v (eCr reach rows bar), .un, .un, .un] S := by
    have q := elc1 (it := iP (pA (eP2 pIdx (pN 2) (pA (eC (.int 1)))))) (vs := [5]) (g := tgN 5) (e := eP1 pLen (pN 5)) (env := [.v (.lst [eCr reach rows bar]), .v (.lst []), .v (eCr reach rows bar), .un, .un, .un]) (env0 := [.v (.lst [eCr reach rows bar]), .v (.lst []), .v (eCr reach rows bar), .un, .un, .un]) (S := S) rows eRow eLen (iP_t (by
      unfold pA
      rw [p2_ok (u := eCr reach rows bar) (v := .int 1) (z := .tup (rows.map eRow)) pN_ok ⟨_, rfl, rfl⟩ rfl]
      rfl)) rfl (by omega) fun r hm => ⟨[.v (.lst [eCr reach rows bar]), .v (.lst []), .v (eCr reach rows bar), .un, .un, .v (eRow r)], rfl, p1_ok pN_ok (pl_row r)⟩
    refine putS (p2_ok pN_ok (pA_ok q rfl) (z := .lst (rows.map eLen)) ?_) rfl rfl
    have : ([] : List PV).length + (rows.map eLen).length ≤ 1000000 := by simp; omega
    simp only [pAdd, this, if_true]
    rfl
  exact run_rt (putS (lstS aN) rfl (forS (env' := [.v (.lst [eCr reach rows bar]), .v (.lst (rows.map eLen)), .v (eCr reach rows bar), .un, .un, .un]) (iP_l rfl) ((for_cons rfl hb).trans rfl) (putS eC_ok rfl (whileS (size_loop S _ _ rows h.l0 (by omega) .un .un rfl rfl fuel 1 (by omega) p0 (by unfold fuel; omega)) (retS rfl))))) rfl
/-! ### the town -/
def TownR (rest S : Sto) : Prop := ∃ (N : List Int) (c : Int), N ≠ [] ∧ S = .lst (N.map .int) :: .lst [.ptr 0, .int c] :: rest
theorem TownR.len {rest S S' : Sto} (h : TownR rest S) (h' : TownR rest S') : S'.length = S.length := by
  obtain ⟨_, _, _, rfl⟩ := h
  obtain ⟨_, _, _, rfl⟩ := h'
  rfl
/-- a run that may change the town -/
theorem step_setC {o k d : Ex} {r : Sm} {env : En} {S S' : Sto} {v kv u u' : PV} {n : Nat} (hd : d env S = .ok v S) (ho : o env S = .ok (.ptr n) S) (hk : k env S = .ok kv S) (hu : S[n]? = some u) (hs : setP u kv v = some u') (hS : S.set n u' = S') : sSeq (sSetC o k d) r env S = r env S' := by
  simp [sSeq, sSetC, hd, ho, hk, hu, hs, hS]
theorem set_int (N : List Int) (j : Nat) (i : Int) : (N.map PV.int).set j (.int i) = (N.set j i).map .int := by
  rw [List.map_set]
theorem draw_ok {rest S : Sto} (h : TownR rest S) {n : Int} (h0 : 0 < n) (h1 : n < 1073741824) : ∃ r S', f_law_draw [.ptr 1, .int n] S = .ok (.int r) S' ∧ TownR rest S' ∧ 0 ≤ r ∧ r < n := by
  obtain ⟨N, c, hN, rfl⟩ := h
  have hlen : 0 < N.length := List.length_pos_iff.mpr hN
  have lp : (0 : Int) < (N.length : Int) := by omega
  obtain ⟨a0, a1⟩ := emod_in (a := c + 1) (n := N.length) hlen
  have hj : ((c + 1) % (N.length : Int)).toNat < N.length := by omega
  generalize hat : (c + 1) % (N.length : Int) = at_ at a0 a1 hj
  let S0 : Sto := .lst (N.map .int) :: .lst [.ptr 0, .int c] :: rest
  let S1 : Sto := .lst (N.map .int) :: .lst [.ptr 0, .int (c + 1)] :: rest
  have pl : pLen (.lst (N.map .int)) = some (.int N.length) := by simp [pLen]
  have ix : pIdx (.lst (N.map .int)) (.int at_) = some (.int N[at_.toNat]!) := idx_l N .int a0 a1
  generalize N[at_.toNat]! = cell at ix
  have e1 : eP2 pIdx (pN 0) (pA (eC (.int 0))) [.v (.ptr 1), .v (.int n), .un, .un, .un, .un] S0 = .ok (.ptr 0) S0 := p2_ok (pC_ok rfl rfl) (pA_ok eC_ok) rfl
  have e2 : eP2 pAdd (pA (eP2 pIdx (pN 0) (pA (eC (.int 1))))) (pA (eC (.int 1))) [.v (.ptr 1), .v (.int n), .v (.ptr 0), .un, .un, .un] S0 = .ok (.int (c + 1)) S0 := p2_ok (pA_ok (p2_ok (pC_ok rfl rfl) (pA_ok eC_ok) rfl)) (pA_ok eC_ok) rfl
  have e3 : eP2 pMod (pA (eP2 pIdx (pN 0) (pA (eC (.int 1))))) (pA (eP1 pLen (pN 2))) [.v (.ptr 1), .v (.int n), .v (.ptr 0), .un, .un, .un] S1 = .ok (.int at_) S1 := p2_ok (pA_ok (p2_ok (pC_ok rfl rfl) (pA_ok eC_ok) rfl)) (pA_ok (p1_ok (pC_ok rfl rfl) pl)) ((pmod_ok lp).trans (by rw [hat]))
  have e4 : eP2 pIdx (pN 2) (pN 3) [.v (.ptr 1), .v (.int n), .v (.ptr 0), .v (.int at_), .un, .un] S1 = .ok (.int cell) S1 := p2_ok (pC_ok rfl rfl) pN_ok ix
  have e5 : eP2 pGe (pN 4) (pA (eC (.int 1000000000000000000))) [.v (.ptr 1), .v (.int n), .v (.ptr 0), .v (.int at_), .v (.int cell), .un] S1 = .ok (.bl (decide (1000000000000000000 ≤ cell))) S1 := p2_ok pN_ok (pA_ok eC_ok) rfl
  have body : ∃ r S', d_law_draw [.v (.ptr 1), .v (.int n), .un, .un, .un, .un] S0 = .rt (.int r) S' ∧ TownR rest S' ∧ 0 ≤ r ∧ r < n := by
    have head : ∀ q, sSeq (sIf (eP2 pGe (pN 4) (pA (eC (.int 1000000000000000000)))) (sSeq (sSetC (eVar 2) (eVar 3) (eP2 pDiv (pN 4) (pN 1))) (sSeq (sRet (eP2 pMod (pN 4) (pN 1))) (sNil))) (sNil)) (sSeq (sPut (tgN 5) (eP2 pMod (pA (eP2 pAdd (pN 4) (pA (eP2 pMul (pA (eC (.int 104729))) (pA (eP2 pIdx (pN 0) (pA (eC (.int 1))))))))) (pA (eC (.int 4294967291))))) (sSeq (sPut (tgN 5) (eP2 pMod (pA (eP2 pPow (pN 5) (pA (eC (.int 5))))) (pA (eC (.int 4294967279))))) (sSeq (sRet (eP2 pMod (pA (eP2 pDiv (pA (eP2 pMod (pA (eP2 pAdd (pA (eP2 pMul (pA (eP2 pDiv (pN 5) (pA (eC (.int 64))))) (pA (eC (.int 69621))))) (pN 5))) (pA (eC (.int 4294967231))))) (pA (eC (.int 8))))) (pN 1))) (sNil)))) [.v (.ptr 1), .v (.int n), .v (.ptr 0), .v (.int at_), .v (.int cell), .un] S1 = q → d_law_draw [.v (.ptr 1), .v (.int n), .un, .un, .un, .un] S0 = q := fun q hq =>
      putS e1 rfl ((step_setC (S' := S1) (u' := .lst [.ptr 0, .int (c + 1)]) e2 eV_ok eC_ok rfl rfl rfl).trans (putS e3 rfl (putS e4 rfl hq)))
    by_cases hc : 1000000000000000000 ≤ cell
    · rw [decide_eq_true hc] at e5
      let S2 : Sto := .lst ((N.set at_.toNat (cell / n)).map .int) :: .lst [.ptr 0, .int (c + 1)] :: rest
      have e6 : eP2 pDiv (pN 4) (pN 1) [.v (.ptr 1), .v (.int n), .v (.ptr 0), .v (.int at_), .v (.int cell), .un] S1 = .ok (.int (cell / n)) S1 := p2_ok pN_ok pN_ok (show pDiv (.int cell) (.int n) = some (.int (cell / n)) by simp [pDiv, h0, h1])
      have e7 : eP2 pMod (pN 4) (pN 1) [.v (.ptr 1), .v (.int n), .v (.ptr 0), .v (.int at_), .v (.int cell), .un] S2 = .ok (.int (cell % n)) S2 := p2_ok pN_ok pN_ok (pmod_ok h0)
      refine ⟨cell % n, S2, head _ ((ifE e5).trans ((if_pos rfl).trans (seqRt ((step_setC (S' := S2) (u' := .lst ((N.set at_.toNat (cell / n)).map .int)) e6 eV_ok eV_ok rfl ?_ rfl).trans (retS e7))))), ⟨_, _, ?_, rfl⟩, Int.emod_nonneg _ (by omega), Int.emod_lt_of_pos _ h0⟩
      · unfold setP
        simp only [List.length_map]
        rw [ixN_in a0 a1, Option.map_some, set_int]
      · intro e
        have := congrArg List.length e
        simp at this
        exact hN this
    · rw [decide_eq_false hc] at e5
      have m1 : pMul (.int 104729) (.int (c + 1)) = some (.int (104729 * (c + 1))) := by
        unfold pMul
        exact if_pos (by unfold cmulB; rw [Bool.or_eq_true, Bool.and_eq_true]; exact .inl ⟨rfl, rfl⟩)
      have f1 : eP2 pMod (pA (eP2 pAdd (pN 4) (pA (eP2 pMul (pA (eC (.int 104729))) (pA (eP2 pIdx (pN 0) (pA (eC (.int 1))))))))) (pA (eC (.int 4294967291))) [.v (.ptr 1), .v (.int n), .v (.ptr 0), .v (.int at_), .v (.int cell), .un] S1 = .ok (.int ((cell + 104729 * (c + 1)) % 4294967291)) S1 :=
        p2_ok (pA_ok (p2_ok pN_ok (pA_ok (p2_ok (pA_ok eC_ok) (pA_ok (p2_ok (pC_ok rfl rfl) (pA_ok eC_ok) rfl)) m1)) rfl)) (pA_ok eC_ok) (pmod_ok (by decide))
      have b0 : 0 ≤ (cell + 104729 * (c + 1)) % 4294967291 := Int.emod_nonneg _ (by decide)
      have b1 : (cell + 104729 * (c + 1)) % 4294967291 < 4294967291 := Int.emod_lt_of_pos _ (by decide)
      generalize (cell + 104729 * (c + 1)) % 4294967291 = x1 at f1 b0 b1
      have m2 : pPow (.int x1) (.int 5) = some (.int (x1 ^ (5 : Int).toNat)) := by
        unfold pPow
        exact if_pos ⟨by decide, by decide, by omega⟩
      have f2 : eP2 pMod (pA (eP2 pPow (pN 5) (pA (eC (.int 5))))) (pA (eC (.int 4294967279))) [.v (.ptr 1), .v (.int n), .v (.ptr 0), .v (.int at_), .v (.int cell), .v (.int x1)] S1 = .ok (.int (x1 ^ (5 : Int).toNat % 4294967279)) S1 :=
        p2_ok (pA_ok (p2_ok pN_ok (pA_ok eC_ok) m2)) (pA_ok eC_ok) (pmod_ok (by decide))
      generalize x1 ^ (5 : Int).toNat % 4294967279 = x2 at f2
      have m3 : pMul (.int (x2 / 64)) (.int 69621) = some (.int (x2 / 64 * 69621)) := by
        unfold pMul
        exact if_pos (by unfold cmulB; rw [Bool.or_eq_true, Bool.and_eq_true, Bool.and_eq_true]; exact .inr ⟨rfl, rfl⟩)
      have f3 : eP2 pMod (pA (eP2 pDiv (pA (eP2 pMod (pA (eP2 pAdd (pA (eP2 pMul (pA (eP2 pDiv (pN 5) (pA (eC (.int 64))))) (pA (eC (.int 69621))))) (pN 5))) (pA (eC (.int 4294967231))))) (pA (eC (.int 8))))) (pN 1) [.v (.ptr 1), .v (.int n), .v (.ptr 0), .v (.int at_), .v (.int cell), .v (.int x2)] S1 = .ok (.int ((x2 / 64 * 69621 + x2) % 4294967231 / 8 % n)) S1 :=
        p2_ok (pA_ok (p2_ok (pA_ok (p2_ok (pA_ok (p2_ok (pA_ok (p2_ok (pA_ok (p2_ok pN_ok (pA_ok eC_ok) rfl)) (pA_ok eC_ok) m3)) pN_ok rfl)) (pA_ok eC_ok) (pmod_ok (by decide)))) (pA_ok eC_ok) rfl)) pN_ok (pmod_ok h0)
      exact ⟨_, S1, head _ ((ifE e5).trans ((if_neg Bool.false_ne_true).trans (putS f1 rfl (putS f2 rfl (retS f3))))), ⟨N, c + 1, hN, rfl⟩, Int.emod_nonneg _ (by omega), Int.emod_lt_of_pos _ h0⟩
  obtain ⟨r, S', hb, ht, hr⟩ := body
  exact ⟨r, S', run_rt hb (TownR.len ⟨N, c, hN, rfl⟩ ht), ht, hr⟩
end M01

set_option maxRecDepth 100000
set_option maxHeartbeats 1000000
namespace M01
open PySem Hw G01
/-! ### runs that draw -/
inductive All2 {α β : Type} (P : α → β → Prop) : List α → List β → Prop
  | nil : All2 P [] []
  | cons {a : α} {b : β} {l : List α} {m : List β} : P a b → All2 P l m → All2 P (a :: l) (b :: m)
def EvI (d : Ex) (env : En) (S : Sto) (Q : PV → Sto → Prop) : Prop := ∃ v S', d env S = .ok v S' ∧ Q v S'
def EvL (d : Exs) (env : En) (S : Sto) (Q : List PV → Sto → Prop) : Prop := ∃ v S', d env S = .ok v S' ∧ Q v S'
def StI (d : Sm) (env : En) (S : Sto) (Q : En → Sto → Prop) : Prop := ∃ e S', d env S = .nx e S' ∧ Q e S'
def RtI (d : Sm) (env : En) (S : Sto) (Q : PV → Sto → Prop) : Prop := ∃ v S', d env S = .rt v S' ∧ Q v S'
section
variable {env env' : En} {S S' : Sto} {Q : PV → Sto → Prop} {QE : En → Sto → Prop} {QL : List PV → Sto → Prop} {d c a b : Ex} {ds : Exs} {u v z : PV} {f : PV → PV → Option PV} {f1 : PV → Option PV} {p q : Plx} {sa sb r : Sm} {g : Tgt} {it : Itx}
theorem eiP (h : d env S = .ok v S) (hq : Q v S) : EvI d env S Q := ⟨v, S, h, hq⟩
theorem ei1 (h : EvI d env S fun v S' => plOf v = .val v ∧ ∃ z, f1 v = some z ∧ Q z S') : EvI (eP1 f1 (pA d)) env S Q := by
  obtain ⟨v, S', h1, h2, z, h3, h4⟩ := h
  exact ⟨z, S', by simp [eP1, pA, h1, R.bind, h2, res, h3, R.opt], h4⟩
/-- a place that no store changes -/
def Fix (p : Plx) (env : En) (u : PV) : Prop := ∀ S, p env S = .ok (.val u) S
theorem fxN {i : Nat} (h : env[i]? = some (.v u) := by rfl) (hp : plOf u = .val u := by rfl) : Fix (pN i) env u := fun S => by simp [pN, h, hp]
theorem fxA (h : ∀ S, d env S = .ok u S) (hp : plOf u = .val u := by rfl) : Fix (pA d) env u := fun S => by simp [pA, h, R.bind, hp]
theorem fxC (hp : plOf u = .val u := by rfl) : Fix (pA (eC u)) env u := fun S => by simp [pA, eC, R.bind, hp]
theorem Fix.pl (h : Fix p env u) : PlE p env S u := ⟨_, h S, rfl⟩
theorem ei2r (ha : Fix p env u) (h : EvI d env S fun v S' => plOf v = .val v ∧ ∃ z, f u v = some z ∧ Q z S') : EvI (eP2 f p (pA d)) env S Q := by
  obtain ⟨v, S', h1, h2, z, h3, h4⟩ := h
  exact ⟨z, S', by simp [eP2, ha S, pA, h1, R.bind, h2, res, h3, R.opt], h4⟩
theorem ei2l (hb : Fix q env v) (h : EvI d env S fun u S' => plOf u = .val u ∧ ∃ z, f u v = some z ∧ Q z S') : EvI (eP2 f (pA d) q) env S Q := by
  obtain ⟨v, S', h1, h2, z, h3, h4⟩ := h
  exact ⟨z, S', by simp [eP2, hb S', pA, h1, R.bind, h2, res, h3, R.opt], h4⟩
theorem elN (h : QL [] S) : EvL esNil env S QL := ⟨[], S, rfl, h⟩
theorem elC (h : EvI d env S fun v S1 => EvL ds env S1 fun vs S2 => QL (v :: vs) S2) : EvL (esCons d ds) env S QL := by
  obtain ⟨v, S1, h1, vs, S2, h2, h3⟩ := h
  exact ⟨_, S2, by simp [esCons, h1, h2, R.bind], h3⟩
theorem eiT (h : EvL ds env S fun vs S' => vs.length ≤ 1000 ∧ Q (.tup vs) S') : EvI (eTup ds) env S Q := by
  obtain ⟨v, S1, h1, h2, h3⟩ := h
  exact ⟨_, S1, by simp [eTup, h1, R.bind, h2], h3⟩
theorem eiL (h : EvL ds env S fun vs S' => vs.length ≤ 1000 ∧ Q (.lst vs) S') : EvI (eLst ds) env S Q := by
  obtain ⟨v, S1, h1, h2, h3⟩ := h
  exact ⟨_, S1, by simp [eLst, h1, R.bind, h2], h3⟩
theorem eiCall {fn : Fn} (h : EvL ds env S fun us S1 => ∃ v S2, fn us S1 = .ok v S2 ∧ Q v S2) : EvI (eCall fn ds) env S Q := by
  obtain ⟨us, S1, h1, v, S2, h2, h3⟩ := h
  exact ⟨v, S2, by simp [eCall, h1, R.bind, h2], h3⟩
theorem eiIf (h : EvI c env S fun v S1 => ∃ k, v = .bl k ∧ if k = true then EvI a env S1 Q else EvI b env S1 Q) : EvI (eIf c a b) env S Q := by
  obtain ⟨v, S1, h1, k, rfl, h2⟩ := h
  cases k with
  | true =>
    obtain ⟨w, S2, h3, h4⟩ := (if_pos rfl).mp h2
    exact ⟨w, S2, by simp [eIf, h1, R.bind, h3], h4⟩
  | false =>
    obtain ⟨w, S2, h3, h4⟩ := (if_neg Bool.false_ne_true).mp h2
    exact ⟨w, S2, by simp [eIf, h1, R.bind, h3], h4⟩
theorem siPut (h : EvI d env S fun v S' => ∃ e, g v env = some e ∧ RtI r e S' Q) : RtI (sSeq (sPut g d) r) env S Q := by
  obtain ⟨v, S', h1, e, h2, w, S2, h3, h4⟩ := h
  exact ⟨w, S2, (step_put h1 h2).trans h3, h4⟩
theorem siPutN (h : EvI d env S fun v S' => ∃ e, g v env = some e ∧ StI r e S' QE) : StI (sSeq (sPut g d) r) env S QE := by
  obtain ⟨v, S', h1, e, h2, w, S2, h3, h4⟩ := h
  exact ⟨w, S2, (step_put h1 h2).trans h3, h4⟩
theorem siOwn {i : Nat} (h : EvI d env S fun v S' => ∃ e, setV i (.own v) env = some e ∧ RtI r e S' Q) : RtI (sSeq (sOwn i d) r) env S Q := by
  obtain ⟨v, S', h1, e, h2, w, S2, h3, h4⟩ := h
  exact ⟨w, S2, by simpa [sSeq, sOwn, h1, h2] using h3, h4⟩
theorem siOwnN {i : Nat} (h : EvI d env S fun v S' => ∃ e, setV i (.own v) env = some e ∧ StI r e S' QE) : StI (sSeq (sOwn i d) r) env S QE := by
  obtain ⟨v, S', h1, e, h2, w, S2, h3, h4⟩ := h
  exact ⟨w, S2, by simpa [sSeq, sOwn, h1, h2] using h3, h4⟩
theorem siRet (h : EvI d env S Q) : RtI (sSeq (sRet d) r) env S Q := by
  obtain ⟨v, S', h1, h2⟩ := h
  exact ⟨v, S', step_ret h1, h2⟩
theorem siNil (h : QE env S) : StI sNil env S QE := ⟨env, S, rfl, h⟩
theorem siNx (h : StI sa env S fun e S' => RtI r e S' Q) : RtI (sSeq sa r) env S Q := by
  obtain ⟨e, S', h1, v, S2, h2, h3⟩ := h
  exact ⟨v, S2, by simpa [sSeq, h1] using h2, h3⟩
theorem siNxN (h : StI sa env S fun e S' => StI r e S' QE) : StI (sSeq sa r) env S QE := by
  obtain ⟨e, S', h1, v, S2, h2, h3⟩ := h
  exact ⟨v, S2, by simpa [sSeq, h1] using h2, h3⟩
theorem siRt (h : RtI sa env S Q) : RtI (sSeq sa r) env S Q := by
  obtain ⟨v, S', h1, h2⟩ := h
  exact ⟨v, S', by simp [sSeq, h1], h2⟩
theorem siIf {k : Bool} (h : EvI c env S fun v S1 => v = .bl k ∧ if k = true then StI sa env S1 QE else StI sb env S1 QE) : StI (sIf c sa sb) env S QE := by
  obtain ⟨v, S1, h1, rfl, h2⟩ := h
  cases k with
  | true =>
    obtain ⟨w, S2, h3, h4⟩ := (if_pos rfl).mp h2
    exact ⟨w, S2, by simp [sIf, h1, h3], h4⟩
  | false =>
    obtain ⟨w, S2, h3, h4⟩ := (if_neg Bool.false_ne_true).mp h2
    exact ⟨w, S2, by simp [sIf, h1, h3], h4⟩
theorem siIfR (h : EvI c env S fun v S1 => ∃ k, v = .bl k ∧ if k = true then RtI sa env S1 Q else StI sb env S1 fun e S2 => RtI r e S2 Q) : RtI (sSeq (sIf c sa sb) r) env S Q := by
  obtain ⟨v, S1, h1, k, rfl, h2⟩ := h
  cases k with
  | true =>
    obtain ⟨w, S2, h3, h4⟩ := (if_pos rfl).mp h2
    exact ⟨w, S2, by simp [sSeq, sIf, h1, h3], h4⟩
  | false =>
    obtain ⟨e, S2, h3, w, S3, h4, h5⟩ := (if_neg Bool.false_ne_true).mp h2
    exact ⟨w, S3, by simpa [sSeq, sIf, h1, h3] using h4, h5⟩
theorem siApp {i : Nat} {xs : List PV} (h0 : env[i]? = some (.own (.lst xs))) (h : EvI d env S fun v S' => xs.length ≤ 1000000 ∧ QE (env.set i (.own (.lst (xs ++ [v])))) S') : StI (sApp i d) env S QE := by
  obtain ⟨v, S', h1, h2, h3⟩ := h
  exact ⟨_, S', by simp [sApp, h0, h1, appP, h2], h3⟩
theorem siFor {α : Type} {body : Sm} (l : List α) (enc : α → PV) (I : List α → En → Sto → Prop) (hi : it env S = .ok (l.map enc) S') (h0 : I [] env S')
    (h : ∀ done a rest, l = done ++ a :: rest → ∀ env S, I done env S → ∃ e1, g (enc a) env = some e1 ∧ StI body e1 S (I (done ++ [a]))) : StI (sFor it g body) env S (I l) := by
  have go : ∀ (rest done : List α) env S, l = done ++ rest → I done env S → ∃ e S', forLoop g body (rest.map enc) env S = .nx e S' ∧ I l e S' := by
    intro rest
    induction rest with
    | nil => intro done env S e hI; rw [List.append_nil] at e; subst e; exact ⟨env, S, rfl, hI⟩
    | cons a rest ih =>
      intro done env S e hI
      obtain ⟨e1, h1, e2, S2, h2, h3⟩ := h done a rest e env S hI
      obtain ⟨e3, S3, h4, h5⟩ := ih (done ++ [a]) e2 S2 (by rw [e]; simp) h3
      exact ⟨e3, S3, (for_cons h1 h2).trans h4, h5⟩
  obtain ⟨e, S2, h1, h2⟩ := go l [] env S' (by simp) h0
  exact ⟨e, S2, by simp [sFor, hi, h1], h2⟩
/-- a comprehension that draws -/
theorem eiLC {α β : Type} {vs : List Nat} {c e : Ex} {env0 : En} (l : List α) (enc : α → PV) (enc2 : β → PV) (I : Sto → Prop) (P : α → β → Prop) (hi : it env S = .ok (l.map enc) S') (hw : wipeE vs env = some env0) (hl : l.length ≤ 1000000) (h0 : I S')
    (h : ∀ a ∈ l, ∀ S, I S → ∃ e1, g (enc a) env0 = some e1 ∧ EvI c e1 S fun v S1 => ∃ k, v = .bl k ∧ I S1 ∧ (k = true → EvI e e1 S1 fun w S2 => ∃ b, w = enc2 b ∧ P a b ∧ I S2)) :
    EvI (eLC it vs g c e) env S fun v S2 => ∃ (l' : List α) (ys : List β), l'.Sublist l ∧ All2 P l' ys ∧ v = .lst (ys.map enc2) ∧ I S2 := by
  have go : ∀ (l : List α), (∀ a ∈ l, ∀ S, I S → ∃ e1, g (enc a) env0 = some e1 ∧ EvI c e1 S fun v S1 => ∃ k, v = .bl k ∧ I S1 ∧ (k = true → EvI e e1 S1 fun w S2 => ∃ b, w = enc2 b ∧ P a b ∧ I S2)) → ∀ S, I S →
      ∃ (l' : List α) (ys : List β) (S2 : Sto), l'.Sublist l ∧ All2 P l' ys ∧ lcLoop g c e env0 (l.map enc) S = .ok (ys.map enc2) S2 ∧ I S2 := by
    intro l
    induction l with
    | nil => exact fun _ S hS => ⟨[], [], S, .slnil, .nil, rfl, hS⟩
    | cons a l ih =>
      intro h S hS
      obtain ⟨e1, h1, v, S1, h2, k, rfl, h3, h4⟩ := h a (by simp) S hS
      cases k with
      | false =>
        obtain ⟨l', ys, S2, g1, g2, g3, g4⟩ := ih (fun b hb => h b (by simp [hb])) S1 h3
        exact ⟨l', ys, S2, .cons _ g1, g2, by simp [lcLoop, h1, h2, R.bind, g3], g4⟩
      | true =>
        obtain ⟨w, S2, g0, b, rfl, hp, hI⟩ := h4 rfl
        obtain ⟨l', ys, S3, g1, g2, g3, g4⟩ := ih (fun b hb => h b (by simp [hb])) S2 hI
        exact ⟨a :: l', b :: ys, S3, .cons₂ _ g1, .cons hp g2, by simp [lcLoop, h1, h2, R.bind, g0, g3], g4⟩
  obtain ⟨l', ys, S2, g1, g2, g3, g4⟩ := go l h S' h0
  exact ⟨_, S2, by simp [eLC, hi, R.bind, hw, hl, g3, R.noex], l', ys, g1, g2, rfl, g4⟩
end
/-! ### drawn things -/
theorem ei_draw {env : En} {S rest : Sto} {Q : PV → Sto → Prop} {d : Ex} {t n : Nat} {k : Int} (hT : TownR rest S) (ht : env[t]? = some (.v (.ptr 1))) (hd : d env S = .ok (.int k) S) (h0 : 0 < k) (h1 : k < 1073741824) (h : ∀ r S', TownR rest S' → 0 ≤ r → r < k → Q (.int r) S') : EvI (eCall f_law_draw (esCons (eVar t) (esCons d esNil))) env S Q := by
  obtain ⟨r, S', e, h2, h3, h4⟩ := draw_ok hT h0 h1
  exact ⟨.int r, S', callS2 (aC (eV_ok ht) (aC hd aN)) e, h r S' h2 h3 h4⟩
where
  callS2 {env : En} {S S' : Sto} {v : PV} {f : Fn} {ds : Exs} {us : List PV} (h : ds env S = .ok us S) (h2 : f us S = .ok v S') : eCall f ds env S = .ok v S' := by simp [eCall, h, R.bind, h2]
theorem ev_town (ns : List Int) : ∃ S', f_law_town [.kls ns] [] = .ok (.ptr 1) S' ∧ TownR [] S' := by
  cases ns with
  | nil => exact ⟨[.lst [.int 0], .lst [.ptr 0, .int 0]], rfl, [0], 0, by simp, rfl⟩
  | cons n ns => exact ⟨[.lst ((n :: ns).map .int), .lst [.ptr 0, .int 0]], rfl, n :: ns, 0, by simp, rfl⟩
theorem pick_ok {rest S : Sto} (h : TownR rest S) (xs : List PV) (h0 : xs ≠ []) (h1 : xs.length < 1000) (hp : ∀ x ∈ xs, plOf x = .val x) : ∃ x S', f_law_pick [.ptr 1, .lst xs] S = .ok x S' ∧ x ∈ xs ∧ TownR rest S' := by
  have l0 : 0 < xs.length := List.length_pos_iff.mpr h0
  have : EvI (eP2 pIdx (pN 1) (pA (eCall f_law_draw (esCons (eVar 0) (esCons (eP1 pLen (pN 1)) (esNil)))))) [.v (.ptr 1), .v (.lst xs)] S fun x S' => x ∈ xs ∧ TownR rest S' := by
    refine ei2r fxN (ei_draw (n := 0) h rfl (p1_ok pN_ok (show pLen (.lst xs) = some (.int xs.length) from rfl)) (by omega) (by omega) fun r S' hT r0 r1 => ⟨rfl, ?_⟩)
    have hr : r.toNat < xs.length := by omega
    refine ⟨xs[r.toNat], ?_, List.getElem_mem _, hT⟩
    show L2.atI xs r = _
    unfold L2.atI
    rw [ixN_in r0 r1]
    simp [hr]
  obtain ⟨x, S', e, hx, hT⟩ := this
  exact ⟨x, S', run_rt (step_ret e) (TownR.len h hT), hx, hT⟩
end M01

set_option maxRecDepth 100000
set_option maxHeartbeats 1000000
namespace M01
open PySem Hw G01
theorem All2.same {α β : Type} {P : α → β → Prop} {f : β → α} (h : ∀ a b, P a b → f b = a) : ∀ {l : List α} {m : List β}, All2 P l m → m.map f = l
  | _, _, .nil => rfl
  | _, _, .cons p q => by rw [List.map_cons, h _ _ p, All2.same h q]
theorem All2.all {α β : Type} {P : α → β → Prop} {R : β → Prop} (h : ∀ a b, P a b → R b) : ∀ {l : List α} {m : List β}, All2 P l m → ∀ b ∈ m, R b
  | _, _, .nil => fun b hb => by simp at hb
  | _, _, .cons p q => fun b hb => by
    rcases List.mem_cons.mp hb with rfl | hb
    · exact h _ _ p
    · exact All2.all h q b hb
theorem All2.len {α β : Type} {P : α → β → Prop} : ∀ {l : List α} {m : List β}, All2 P l m → l.length = m.length
  | _, _, .nil => rfl
  | _, _, .cons _ q => by simp [All2.len q]
/-- those of 0 .. n - 1 that a test lets through -/
theorem some_ints {n : Nat} {l' : List Nat} (hs : l'.Sublist (List.range n)) : (∀ b ∈ l'.map fun k : Nat => 0 + (k : Int), 0 ≤ b ∧ b < (n : Int)) ∧ (l'.map fun k : Nat => 0 + (k : Int)).Pairwise (· < ·) ∧ (l'.map fun k : Nat => 0 + (k : Int)).length ≤ n := by
  refine ⟨fun b hb => ?_, ?_, ?_⟩
  · obtain ⟨k, hk, rfl⟩ := List.mem_map.mp hb
    have := List.mem_range.mp (hs.subset hk)
    omega
  · rw [List.pairwise_map]
    exact (List.pairwise_lt_range.sublist hs).imp fun h => by omega
  · rw [List.length_map]
    have := hs.length_le
    rwa [List.length_range] at this
/-- tuple([k for k in range(count) if draw(m) == 0]) -/
theorem ei_some {env env0 : En} {S rest : Sto} {Q : PV → Sto → Prop} {d dm : Ex} {t i : Nat} {n : Nat} {m : Int} (hT : TownR rest S) (hn : n ≤ 1000) (hd : d env S = .ok (.int n) S) (hw : wipeE [i] env = some env0) (hset : ∀ k : Nat, ∃ e, tgN i (eK k) env0 = some e ∧ e[t]? = some (.v (.ptr 1)) ∧ (∀ S, dm e S = .ok (.int m) S) ∧ e[i]? = some (.v (eK k))) (m0 : 0 < m) (m1 : m < 1073741824)
    (h : ∀ (l' : List Nat) S', l'.Sublist (List.range n) → TownR rest S' → Q (.tup (l'.map eK)) S') : EvI (eP1 pTuple (pA (eLC (iR1 d) [i] (tgN i) (eP2 pEq (pA (eCall f_law_draw (esCons (eVar t) (esCons dm esNil)))) (pA (eC (.int 0)))) (eVar i)))) env S Q := by
  refine ei1 ?_
  obtain ⟨v, S2, e, l', ys, h1, h2, h3, h4⟩ := eiLC (it := iR1 d) (vs := [i]) (g := tgN i) (c := eP2 pEq (pA (eCall f_law_draw (esCons (eVar t) (esCons dm esNil)))) (pA (eC (.int 0)))) (e := eVar i) (env := env) (S := S) (S' := S) (env0 := env0) (List.range n) eK eK (TownR rest) (fun a b => b = a) ((r1_ok (j := (n : Int)) hd (by omega) (by omega)).trans (by simp)) hw (by simp; omega) hT (fun k _ S hS => by
    obtain ⟨e, e1, e2, e3, e4⟩ := hset k
    refine ⟨e, e1, ei2l fxC (ei_draw (t := t) (n := 0) hS e2 (e3 S) m0 m1 fun r S' hT r0 r1 => ⟨rfl, _, pEqI, r == 0, rfl, hT, fun _ => ⟨_, S', eV_ok e4, k, rfl, rfl, hT⟩⟩)⟩)
  refine ⟨v, S2, e, ?_⟩
  subst h3
  have := All2.same (f := id) (fun a b e => e) h2
  rw [List.map_id] at this
  subst this
  exact ⟨rfl, _, rfl, h _ _ h1 h4⟩
theorem eK_int (l : List Nat) : l.map eK = (l.map fun k : Nat => 0 + (k : Int)).map PV.int := by simp [eK, Function.comp_def]
theorem some_ok {rest S : Sto} (h : TownR rest S) {n : Nat} {m : Int} (hn : n ≤ 1000) (m0 : 0 < m) (m1 : m < 1073741824) : ∃ (l' : List Nat) (S' : Sto), f_law_some [.ptr 1, .int n, .int m] S = .ok (.tup (l'.map eK)) S' ∧ l'.Sublist (List.range n) ∧ TownR rest S' := by
  have : EvI (eP1 pTuple (pA (eLC (iR1 (eVar 1)) [3] (tgN 3) (eP2 pEq (pA (eCall f_law_draw (esCons (eVar 0) (esCons (eVar 2) (esNil))))) (pA (eC (.int 0)))) (eVar 3)))) [.v (.ptr 1), .v (.int n), .v (.int m), .un] S fun v S' => ∃ l' : List Nat, v = .tup (l'.map eK) ∧ l'.Sublist (List.range n) ∧ TownR rest S' :=
    ei_some (env0 := [.v (.ptr 1), .v (.int n), .v (.int m), .un]) h hn eV_ok rfl (fun k => ⟨[.v (.ptr 1), .v (.int n), .v (.int m), .v (eK k)], rfl, rfl, fun _ => rfl, rfl⟩) m0 m1 fun l' S' h1 h2 => ⟨l', rfl, h1, h2⟩
  obtain ⟨v, S', e, l', rfl, h1, h2⟩ := this
  exact ⟨l', S', run_rt (step_ret e) (TownR.len h h2), h1, h2⟩
def StOk (s : St3) : Prop := -9 ≤ s.1 ∧ s.1 ≤ 9 ∧ -9 ≤ s.2.1 ∧ s.2.1 ≤ 9 ∧ 0 ≤ s.2.2 ∧ s.2.2 ≤ 3
theorem r1_impI {d : Ex} {env : En} {S S' : Sto} {i : Int} (h : d env S = .ok (.int i) S') (h0 : 0 ≤ i) (h1 : i ≤ 1000) : iR1 d env S = .ok ((List.range i.toNat).map eK) S' := by
  have h3 : okN i = true := okN_s (by omega) (by omega)
  unfold iR1
  rw [h]
  simp only [R.bind]
  rw [if_pos h3]
  rfl
theorem r1_imp {d : Ex} {env : En} {S S' : Sto} {j : Nat} (h : d env S = .ok (.int (j : Int)) S') (h1 : j ≤ 1000) : iR1 d env S = .ok ((List.range j).map eK) S' := by
  have e := r1_impI h (Int.natCast_nonneg j) (Int.ofNat_le.mpr h1)
  rw [Int.toNat_natCast] at e
  exact e
theorem ei_nat {env : En} {S rest : Sto} {Q : PV → Sto → Prop} {d : Ex} {t : Nat} {k : Int} {b : Nat} (hT : TownR rest S) (ht : env[t]? = some (.v (.ptr 1))) (hd : d env S = .ok (.int k) S) (h0 : 0 < k) (h1 : k < 1000) (h : ∀ (m : Nat) S', TownR rest S' → b ≤ m → (m : Int) < k + b → Q (.int m) S') : EvI (eP2 pAdd (pA (eC (.int b))) (pA (eCall f_law_draw (esCons (eVar t) (esCons d esNil))))) env S Q :=
  ei2r fxC (ei_draw (n := 0) hT ht hd h0 (by omega) fun r S' hT r0 r1 => ⟨rfl, .int (((b : Int) + r).toNat : Nat), (show some (PV.int ((b : Int) + r)) = _ by rw [Int.toNat_of_nonneg (by omega)]), h _ S' hT (by omega) (by omega)⟩)
theorem put_nlk {i : Nat} {x : SV} {v : SV} {env : En} (h : env[i]? = some x) (hx : nlk x) : setV i v env = some (env.set i v) := by
  unfold setV
  rw [h]
  cases x <;> first | rfl | exact absurd rfl (hx _)
/-- one row -/
theorem row_loop {S : Sto} (h : TownR [] S) (x0 x1 x5 : SV) (xs : List PV) {long broad step : Int} {k : Nat} {x9 : SV} (hx9 : nlk x9) (l0 : 1 ≤ long) (l1 : long ≤ 6) (b0 : 1 ≤ broad) (b1 : broad ≤ 4) (s0 : 0 ≤ step) (s1 : step ≤ 1) (hk : k < 6) (hbs : broad + step * 5 ≤ 9) :
    StI (sFor (iR1 (eP2 pAdd (pA (eC (.int 1))) (pA (eCall f_law_draw (esCons (eVar 0) (esCons (eVar 2) (esNil))))))) (tgN 9) (sSeq (sApp 8 (eTup (esCons (eP2 pAdd (pA (eP2 pMul (pN 7) (pN 4))) (pA (eCall f_law_draw (esCons (eVar 0) (esCons (eVar 6) (esNil)))))) (esCons (eCall f_law_draw (esCons (eVar 0) (esCons (eC (.int 2)) (esNil)))) (esCons (eCall f_law_draw (esCons (eVar 0) (esCons (eC (.int 4)) (esNil)))) (esNil)))))) (sNil)))
      [.v (.ptr 1), x1, .v (.int long), .own (.lst xs), .v (eK k), x5, .v (.int broad), .v (.int step), .own (.lst []), x9] S
      fun env S' => TownR [] S' ∧ ∃ (row : List St3) (y9 : SV), 1 ≤ row.length ∧ row.length ≤ 6 ∧ (∀ s ∈ row, StOk s) ∧ nlk y9 ∧ env = [.v (.ptr 1), x1, .v (.int long), .own (.lst xs), .v (eK k), x5, .v (.int broad), .v (.int step), .own (.lst (row.map eS)), y9] := by
  obtain ⟨v, S1, e, m, rfl, m0, m1, hT⟩ := ei_nat (b := 1) (t := 0) (d := eVar 2) (env := [.v (.ptr 1), x1, .v (.int long), .own (.lst xs), .v (eK k), x5, .v (.int broad), .v (.int step), .own (.lst []), x9]) (Q := fun v S' => ∃ m : Nat, v = .int m ∧ 1 ≤ m ∧ m ≤ 6 ∧ TownR [] S') h rfl eV_ok (by omega) (by omega) fun m S' hT a b => ⟨m, rfl, a, by omega, hT⟩
  have := siFor (it := iR1 (eP2 pAdd (pA (eC (.int 1))) (pA (eCall f_law_draw (esCons (eVar 0) (esCons (eVar 2) (esNil))))))) (g := tgN 9) (body := sSeq (sApp 8 (eTup (esCons (eP2 pAdd (pA (eP2 pMul (pN 7) (pN 4))) (pA (eCall f_law_draw (esCons (eVar 0) (esCons (eVar 6) (esNil)))))) (esCons (eCall f_law_draw (esCons (eVar 0) (esCons (eC (.int 2)) (esNil)))) (esCons (eCall f_law_draw (esCons (eVar 0) (esCons (eC (.int 4)) (esNil)))) (esNil)))))) (sNil)) (List.range m) eK
    (fun done env S' => TownR [] S' ∧ ∃ (row : List St3) (y9 : SV), row.length = done.length ∧ (∀ s ∈ row, StOk s) ∧ nlk y9 ∧ env = [.v (.ptr 1), x1, .v (.int long), .own (.lst xs), .v (eK k), x5, .v (.int broad), .v (.int step), .own (.lst (row.map eS)), y9]) (r1_imp e (by omega)) ⟨hT, [], x9, rfl, by simp, hx9, rfl⟩ ?_
  · obtain ⟨env, S2, h1, h2, row, y9, h3, h4, h5, h6⟩ := this
    rw [List.length_range] at h3
    exact ⟨env, S2, h1, h2, row, y9, by omega, by omega, h4, h5, h6⟩
  · rintro done a rest hd env S2 ⟨hT2, row, y9, hr, hs, hy, rfl⟩
    have hlen : done.length < m := by
      have := congrArg List.length hd
      simp at this
      omega
    refine ⟨[.v (.ptr 1), x1, .v (.int long), .own (.lst xs), .v (eK k), x5, .v (.int broad), .v (.int step), .own (.lst (row.map eS)), .v (eK a)], put_nlk rfl hy, siNxN ?_⟩
    refine siApp rfl (eiT (elC (ei2r (u := .int (step * (0 + (k : Int)))) (fxA fun S => p2_ok pN_ok pN_ok (mul_s (by omega))) (ei_draw (n := 0) hT2 rfl eV_ok (by omega) (by omega) fun r1 S3 hT3 r10 r11 => ⟨rfl, _, rfl, elC (ei_draw (n := 0) hT3 rfl eC_ok (by decide) (by decide) fun r2 S4 hT4 r20 r21 => elC (ei_draw (n := 0) hT4 rfl eC_ok (by decide) (by decide) fun r3 S5 hT5 r30 r31 => elN ⟨by simp, by simp; omega, siNil ⟨hT5, row ++ [(step * (0 + (k : Int)) + r1, r2, r3)], .v (eK a), by simp [hr], ?_, nlk_v _, ?_⟩⟩))⟩))))
    · intro s hsm
      rcases List.mem_append.mp hsm with h | h
      · exact hs s h
      · rw [List.mem_singleton] at h
        subst h
        have k0 : (0 : Int) ≤ 0 + (k : Int) := by omega
        have k1 : 0 + (k : Int) ≤ 5 := by omega
        have p0 : 0 ≤ step * (0 + (k : Int)) := Int.mul_nonneg s0 k0
        have p1 : step * (0 + (k : Int)) ≤ step * 5 := Int.mul_le_mul_of_nonneg_left k1 s0
        unfold StOk
        simp only
        omega
    · simp [eS]
end M01

set_option maxRecDepth 100000
set_option maxHeartbeats 1000000
namespace M01
open PySem Hw G01
def RowOk (r : List St3) : Prop := 1 ≤ r.length ∧ r.length ≤ 6 ∧ ∀ s ∈ r, StOk s
theorem good_of {reach : Int} {rows : List (List St3)} {l' : List Nat} {count : Nat} (r0 : 0 ≤ reach) (r1 : reach ≤ 18) (hc : rows.length = count) (c0 : 2 ≤ count) (c1 : count ≤ 6) (hr : ∀ r ∈ rows, RowOk r) (hs : l'.Sublist (List.range count)) : Good reach rows (l'.map fun k : Nat => 0 + (k : Int)) := by
  obtain ⟨a, b, c⟩ := some_ints hs
  exact ⟨r0, r1, by omega, by omega, fun r h => (hr r h).1, fun r h => (hr r h).2.1, fun r h => (hr r h).2.2, by rw [hc]; exact a, b, by omega⟩
theorem rows_loop {S : Sto} (h : TownR [] S) {count : Nat} (c0 : 2 ≤ count) (c1 : count ≤ 6) {long broad step : Int} (l0 : 1 ≤ long) (l1 : long ≤ 6) (b0 : 1 ≤ broad) (b1 : broad ≤ 4) (s0 : 0 ≤ step) (s1 : step ≤ 1) (hbs : broad + step * 5 ≤ 9) :
    StI (sFor (iR1 (eVar 1)) (tgN 4) (sSeq (sOwn 8 (eLst (esNil))) (sSeq (sFor (iR1 (eP2 pAdd (pA (eC (.int 1))) (pA (eCall f_law_draw (esCons (eVar 0) (esCons (eVar 2) (esNil))))))) (tgN 9) (sSeq (sApp 8 (eTup (esCons (eP2 pAdd (pA (eP2 pMul (pN 7) (pN 4))) (pA (eCall f_law_draw (esCons (eVar 0) (esCons (eVar 6) (esNil)))))) (esCons (eCall f_law_draw (esCons (eVar 0) (esCons (eC (.int 2)) (esNil)))) (esCons (eCall f_law_draw (esCons (eVar 0) (esCons (eC (.int 4)) (esNil)))) (esNil)))))) (sNil))) (sSeq (sApp 3 (eP1 pTuple (pN 8))) (sNil)))))
      [.v (.ptr 1), .v (.int (count : Int)), .v (.int long), .own (.lst []), .un, .un, .v (.int broad), .v (.int step), .un, .un] S
      fun env S' => TownR [] S' ∧ ∃ (rows : List (List St3)) (x4 x8 x9 : SV), rows.length = count ∧ (∀ r ∈ rows, RowOk r) ∧ nlk x4 ∧ nlk x8 ∧ nlk x9 ∧ (∀ y, x4 ≠ .own y) ∧ env = [.v (.ptr 1), .v (.int (count : Int)), .v (.int long), .own (.lst (rows.map eRow)), x4, .un, .v (.int broad), .v (.int step), x8, x9] := by
  have := siFor (it := iR1 (eVar 1)) (g := tgN 4) (env := [.v (.ptr 1), .v (.int (count : Int)), .v (.int long), .own (.lst []), .un, .un, .v (.int broad), .v (.int step), .un, .un]) (body := (sSeq (sOwn 8 (eLst (esNil))) (sSeq (sFor (iR1 (eP2 pAdd (pA (eC (.int 1))) (pA (eCall f_law_draw (esCons (eVar 0) (esCons (eVar 2) (esNil))))))) (tgN 9) (sSeq (sApp 8 (eTup (esCons (eP2 pAdd (pA (eP2 pMul (pN 7) (pN 4))) (pA (eCall f_law_draw (esCons (eVar 0) (esCons (eVar 6) (esNil)))))) (esCons (eCall f_law_draw (esCons (eVar 0) (esCons (eC (.int 2)) (esNil)))) (esCons (eCall f_law_draw (esCons (eVar 0) (esCons (eC (.int 4)) (esNil)))) (esNil)))))) (sNil))) (sSeq (sApp 3 (eP1 pTuple (pN 8))) (sNil))))) (List.range count) eK
    (fun done env S' => TownR [] S' ∧ ∃ (rows : List (List St3)) (x4 x8 x9 : SV), rows.length = done.length ∧ (∀ r ∈ rows, RowOk r) ∧ nlk x4 ∧ nlk x8 ∧ nlk x9 ∧ (∀ y, x4 ≠ .own y) ∧ env = [.v (.ptr 1), .v (.int (count : Int)), .v (.int long), .own (.lst (rows.map eRow)), x4, .un, .v (.int broad), .v (.int step), x8, x9]) (S := S) (r1_imp eV_ok (by omega)) ⟨h, [], .un, .un, .un, rfl, by simp, nlk_un, nlk_un, nlk_un, fun _ => by simp, rfl⟩ ?_
  · obtain ⟨env, S2, h1, h2, rows, x4, x8, x9, h3, h4⟩ := this
    rw [List.length_range] at h3
    exact ⟨env, S2, h1, h2, rows, x4, x8, x9, h3, h4⟩
  · rintro done a rest hd env S2 ⟨hT, rows, x4, x8, x9, hr, hs, n4, n8, n9, o4, rfl⟩
    have ha : a = done.length := by
      have := congrArg (fun l : List Nat => l[done.length]?) hd
      simp at this
      have hlt : done.length < count := by
        have := congrArg List.length hd
        simp at this
        omega
      rw [List.getElem?_range hlt] at this
      simpa using this.symm
    have hlt : done.length < count := by
      have := congrArg List.length hd
      simp at this
      omega
    refine ⟨[.v (.ptr 1), .v (.int (count : Int)), .v (.int long), .own (.lst (rows.map eRow)), .v (eK a), .un, .v (.int broad), .v (.int step), x8, x9], put_nlk rfl n4, siOwnN (eiP (lstS aN) ⟨_, put_nlk rfl n8, siNxN ?_⟩)⟩
    obtain ⟨e3, S3, g1, hT3, row, y9, q0, q1, q2, q3, rfl⟩ := row_loop hT .un (.v (.int (count : Int))) .un (rows.map eRow) (k := a) n9 l0 l1 b0 b1 s0 s1 (by omega) hbs
    refine ⟨_, S3, g1, siNxN (siApp rfl (eiP (p1_ok (pO_ok rfl) rfl) ⟨by simp; omega, siNil ⟨hT3, rows ++ [row], .v (eK a), .own (.lst (row.map eS)), y9, by simp [hr], ?_, nlk_v _, fun _ => by simp, q3, fun _ => by simp, ?_⟩⟩))⟩
    · intro r hm
      rcases List.mem_append.mp hm with h | h
      · exact hs r h
      · rw [List.mem_singleton] at h
        subst h
        exact ⟨q0, q1, q2⟩
    · simp [eRow]
theorem crowd2 {S : Sto} (h : TownR [] S) {count : Nat} (c0 : 2 ≤ count) (c1 : count ≤ 6) {long : Int} (l0 : 1 ≤ long) (l1 : long ≤ 6) :
    RtI (sSeq (sOwn 3 (eLst (esNil))) (sSeq (sPut (tgT [6, 7]) (eCall f_law_pick (esCons (eVar 0) (esCons (eLst (esCons (eTup (esCons (eC (.int 4)) (esCons (eC (.int 0)) (esNil)))) (esCons (eTup (esCons (eC (.int 2)) (esCons (eC (.int 1)) (esNil)))) (esCons (eTup (esCons (eC (.int 2)) (esCons (eC (.int 1)) (esNil)))) (esCons (eTup (esCons (eC (.int 1)) (esCons (eC (.int 1)) (esNil)))) (esNil)))))) (esNil))))) (sSeq (sFor (iR1 (eVar 1)) (tgN 4) (sSeq (sOwn 8 (eLst (esNil))) (sSeq (sFor (iR1 (eP2 pAdd (pA (eC (.int 1))) (pA (eCall f_law_draw (esCons (eVar 0) (esCons (eVar 2) (esNil))))))) (tgN 9) (sSeq (sApp 8 (eTup (esCons (eP2 pAdd (pA (eP2 pMul (pN 7) (pN 4))) (pA (eCall f_law_draw (esCons (eVar 0) (esCons (eVar 6) (esNil)))))) (esCons (eCall f_law_draw (esCons (eVar 0) (esCons (eC (.int 2)) (esNil)))) (esCons (eCall f_law_draw (esCons (eVar 0) (esCons (eC (.int 4)) (esNil)))) (esNil)))))) (sNil))) (sSeq (sApp 3 (eP1 pTuple (pN 8))) (sNil))))) (sSeq (sPut (tgN 5) (eP1 pTuple (pA (eLC (iR1 (eVar 1)) [4] (tgN 4) (eP2 pEq (pA (eCall f_law_draw (esCons (eVar 0) (esCons (eC (.int 10)) (esNil))))) (pA (eC (.int 0)))) (eVar 4))))) (sSeq (sRet (eTup (esCons (eP2 pAdd (pA (eC (.int 1))) (pA (eP2 pDiv (pA (eCall f_law_draw (esCons (eVar 0) (esCons (eC (.int 5)) (esNil))))) (pA (eC (.int 2)))))) (esCons (eP1 pTuple (pN 3)) (esCons (eVar 5) (esNil)))))) (sNil))))))
      [.v (.ptr 1), .v (.int count), .v (.int long), .un, .un, .un, .un, .un, .un, .un] S fun v S' => ∃ reach rows bar, v = eCr reach rows bar ∧ TownR [] S' ∧ Good reach rows bar ∧ rows.length = count := by
  refine siOwn (eiP (lstS aN) ⟨_, rfl, siPut ?_⟩)
  obtain ⟨x, S1, e, hx, hT⟩ := pick_ok h [.tup [.int 4, .int 0], .tup [.int 2, .int 1], .tup [.int 2, .int 1], .tup [.int 1, .int 1]] (by simp) (by simp) (by simp [plOf])
  obtain ⟨broad, step, rfl, hb0, hb1, hs0, hs1, hbs⟩ : ∃ broad step : Int, x = .tup [.int broad, .int step] ∧ 1 ≤ broad ∧ broad ≤ 4 ∧ 0 ≤ step ∧ step ≤ 1 ∧ broad + step * 5 ≤ 9 := by
    simp at hx
    rcases hx with rfl | rfl | rfl <;> exact ⟨_, _, rfl, by decide, by decide, by decide, by decide, by decide⟩
  refine eiCall (elC (eiP eV_ok (elC (eiP (lstS (aC (tupS (aC eC_ok (aC eC_ok aN))) (aC (tupS (aC eC_ok (aC eC_ok aN))) (aC (tupS (aC eC_ok (aC eC_ok aN))) (aC (tupS (aC eC_ok (aC eC_ok aN))) aN))))) (elN ⟨_, S1, e, _, rfl, siNx ?_⟩)))))
  obtain ⟨e2, S2, g1, hT2, rows, x4, x8, x9, hr, hro, n4, n8, n9, o4, rfl⟩ := rows_loop hT c0 c1 l0 l1 hb0 hb1 hs0 hs1 hbs
  refine ⟨_, S2, g1, siPut ?_⟩
  have hw : ∃ env0, wipeE [4] [SV.v (.ptr 1), .v (.int (count : Int)), .v (.int long), .own (.lst (rows.map eRow)), x4, .un, .v (.int broad), .v (.int step), x8, x9] = some env0 ∧ env0 = [SV.v (.ptr 1), .v (.int (count : Int)), .v (.int long), .own (.lst (rows.map eRow)), .un, .un, .v (.int broad), .v (.int step), x8, x9] := by
    cases x4 with
    | un => exact ⟨_, rfl, rfl⟩
    | v _ => exact ⟨_, rfl, rfl⟩
    | own _ => exact absurd rfl (o4 _)
    | lk _ => exact absurd rfl (n4 _)
  obtain ⟨env0, hw, rfl⟩ := hw
  refine ei_some (t := 0) (n := count) (m := 10) hT2 (by omega) eV_ok hw (fun k => ⟨_, rfl, rfl, fun _ => rfl, rfl⟩) (by decide) (by decide) fun l' S3 hs3 hT3 => ⟨_, rfl, siRet ?_⟩
  refine eiT (elC (ei2r fxC (ei2l fxC (ei_draw (n := 0) hT3 rfl eC_ok (by decide) (by decide) fun r S4 hT4 r0 r1 => ⟨rfl, .int (r / 2), rfl, rfl, .int (1 + r / 2), rfl, elC (eiP (p1_ok (pO_ok rfl) rfl) (elC (eiP eV_ok (elN ⟨by simp, 1 + r / 2, rows, l'.map fun k : Nat => 0 + (k : Int), ?_, hT4, good_of (by omega) (by omega) hr c0 c1 hro hs3, hr⟩))))⟩))))
  rw [eK_int]
  rfl
end M01

set_option maxRecDepth 100000
set_option maxHeartbeats 1000000
namespace M01
open PySem Hw G01
section
variable {env env' : En} {S S' : Sto} {Q : PV → Sto → Prop} {QE : En → Sto → Prop} {d c a b k o : Ex} {sa sb r : Sm}
theorem siAppC {n : Nat} {xs : List PV} (ho : o env S = .ok (.ptr n) S) (h1 : S[n]? = some (.lst xs)) (hd : EvI d env S fun v S' => ∃ ys, S'[n]? = some (.lst ys) ∧ ys.length ≤ 1000000 ∧ QE env (S'.set n (.lst (ys ++ [v])))) : StI (sAppC o d) env S QE := by
  obtain ⟨v, S', h2, ys, h3, h4, h5⟩ := hd
  exact ⟨env, _, by simp [sAppC, ho, h1, h2, h3, appP, h4], h5⟩
theorem siPop {t i : Nat} {xs : List PV} (h0 : env[i]? = some (.own (.lst xs))) (hn : t ≠ i) (hk : EvI k env S fun v S' => ∃ u y e, popP (.lst xs) v = some (u, y) ∧ setV t (.v y) (env.set i (.own u)) = some e ∧ QE e S') : StI (sPop t i k) env S QE := by
  obtain ⟨v, S', h1, u, y, e, h2, h3, h4⟩ := hk
  exact ⟨e, S', by simp [sPop, h0, h1, h2, h3, hn], h4⟩
theorem siWhile (I : Nat → En → Sto → Prop) (h : ∀ m env S, I m env S → ∃ q, c env S = .ok (.bl q) S ∧ if q = true then StI sa env S fun e S' => ∃ m', m' < m ∧ I m' e S' else QE env S) : ∀ (n m : Nat) env S, m < n → I m env S → ∃ e S', whileLoop c sa n env S = .nx e S' ∧ QE e S' := by
  intro n
  induction n with
  | zero => intro m env S hm; omega
  | succ n ih =>
    intro m env S hm hI
    obtain ⟨q, hc, hq⟩ := h m env S hI
    cases q with
    | true =>
      obtain ⟨e, S', h1, m', h2, h3⟩ := (if_pos rfl).mp hq
      obtain ⟨e2, S2, h4, h5⟩ := ih m' e S' (by omega) h3
      exact ⟨e2, S2, (by simp [whileLoop, hc, h1, h4]), h5⟩
    | false => exact ⟨env, S, while_F hc, (if_neg Bool.false_ne_true).mp hq⟩
theorem siIfS {q : Bool} (h1 : c env S = .ok (.bl q) S) (h : if q = true then StI sa env S QE else StI sb env S QE) : StI (sIf c sa sb) env S QE := by
  cases q with
  | true =>
    obtain ⟨w, S2, h3, h4⟩ := (if_pos rfl).mp h
    exact ⟨w, S2, by simp [sIf, h1, h3], h4⟩
  | false =>
    obtain ⟨w, S2, h3, h4⟩ := (if_neg Bool.false_ne_true).mp h
    exact ⟨w, S2, by simp [sIf, h1, h3], h4⟩
end
/-! ### boxes -/
theorem box_loop (env0 : En) (hw : ∃ x, env0[10]? = some x ∧ nlk x) : ∀ (l : List Nat) (S : Sto), lcLoop (tgN 10) eYes (eBox (eLst esNil)) env0 (l.map eK) S = .ok ((List.range l.length).map fun i => .ptr (S.length + i)) (S ++ List.replicate l.length (.lst [])) := by
  obtain ⟨x, h1, h2⟩ := hw
  intro l
  induction l with
  | nil => intro S; simp [lcLoop]
  | cons a l ih =>
    intro S
    have ih := ih (S ++ [.lst []])
    have e1 : tgN 10 (eK a) env0 = some (env0.set 10 (.v (eK a))) := put_nlk h1 h2
    have e2 : eBox (eLst esNil) (env0.set 10 (.v (eK a))) S = .ok (.ptr S.length) (S ++ [.lst []]) := rfl
    rw [List.map_cons, lcLoop, e1]
    simp only [eYes, R.bind, e2, ih]
    congr 1
    · rw [List.length_cons, List.range_succ_eq_map, List.map_cons, List.map_map]
      simp [Function.comp_def]
      intro i _
      omega
    · rw [List.append_assoc]
      rfl
def cells (rows : List (List St3)) : List PV := rows.map fun r => .lst (r.map eS)
def ptrs (n : Nat) : List PV := (List.range n).map fun i => .ptr (2 + i)
theorem cell_at {rows : List (List St3)} {S : Sto} (h : TownR (cells rows) S) {i : Nat} (hi : i < rows.length) : S[2 + i]? = some (.lst (rows[i].map eS)) := by
  obtain ⟨N, c, _, rfl⟩ := h
  rw [Nat.add_comm]
  simp [cells, hi]
theorem cell_set {rows : List (List St3)} {S : Sto} (h : TownR (cells rows) S) (i : Nat) (row : List St3) : TownR (cells (rows.set i row)) (S.set (2 + i) (.lst (row.map eS))) := by
  obtain ⟨N, c, hN, rfl⟩ := h
  refine ⟨N, c, hN, ?_⟩
  rw [Nat.add_comm]
  simp [cells, List.map_set]
theorem erase_map {α β : Type} (f : α → β) : ∀ (l : List α) (i : Nat), (l.map f).eraseIdx i = (l.eraseIdx i).map f
  | [], _ => rfl
  | _ :: _, 0 => rfl
  | a :: l, i + 1 => by simp [erase_map f l i]
theorem pop_at (L : List Nat) {j : Int} (h0 : 0 ≤ j) (h1 : j < L.length) (hl : L.length ≤ 1000) : popP (.lst (L.map eK)) (.int j) = some (.lst ((L.eraseIdx j.toNat).map eK), eK (L[j.toNat]!)) := by
  have hi : j.toNat < L.length := by omega
  have e1 : seqIndex? j (L.map eK).length = some j.toNat := by
    unfold seqIndex?
    have n0 : ¬ j < 0 := by omega
    simp [n0, h0, h1]
  have e2 : (decide (-(2 ^ 63) ≤ j) && decide (j < 2 ^ 63)) = true := by
    rw [Bool.and_eq_true]
    exact ⟨decide_eq_true (by omega), decide_eq_true (by omega)⟩
  unfold popP
  dsimp only
  rw [if_pos e2, e1]
  simp [hi, erase_map]
end M01

set_option maxRecDepth 100000
set_option maxHeartbeats 1000000
namespace M01
open PySem Hw G01
/-- who is still left: each row has its stands of the beats before, and one more where its own is not left -/
structure Lf (count beat : Nat) (L : List Nat) (rows : List (List St3)) : Prop where
  nd : L.Nodup
  lt : ∀ a ∈ L, a < count
  rl : rows.length = count
  ln : ∀ (i : Nat) (r : List St3), rows[i]? = some r → r.length = beat + (if i ∈ L then 0 else 1)
  ok : ∀ r ∈ rows, ∀ s ∈ r, StOk s
theorem erase_mem {L : List Nat} (nd : L.Nodup) {j : Nat} (hj : j < L.length) (i : Nat) : i ∈ L.eraseIdx j ↔ i ∈ L ∧ i ≠ L[j] := by
  induction L generalizing j with
  | nil => simp at hj
  | cons a L ih =>
    rw [List.nodup_cons] at nd
    cases j with
    | zero =>
      simp only [List.eraseIdx_cons_zero, List.getElem_cons_zero, List.mem_cons]
      constructor
      · exact fun h => ⟨.inr h, fun e => nd.1 (e ▸ h)⟩
      · rintro ⟨h | h, h2⟩
        · exact absurd h h2
        · exact h
    | succ j =>
      have hj' : j < L.length := by simpa using hj
      simp only [List.eraseIdx_cons_succ, List.getElem_cons_succ, List.mem_cons, ih nd.2 hj']
      constructor
      · rintro (h | ⟨h, h2⟩)
        · exact ⟨.inl h, fun e => nd.1 (by rw [← h, e]; exact List.getElem_mem _)⟩
        · exact ⟨.inr h, h2⟩
      · rintro ⟨h | h, h2⟩
        · exact .inl h
        · exact .inr ⟨h, h2⟩
theorem Lf.step {count beat : Nat} {L : List Nat} {rows : List (List St3)} (h : Lf count beat L rows) {j : Nat} (hj : j < L.length) (hr : L[j] < rows.length) {s : St3} (hs : StOk s) : Lf count beat (L.eraseIdx j) (rows.set L[j] (rows[L[j]] ++ [s])) := by
  refine ⟨h.nd.sublist (List.eraseIdx_sublist ..), fun a ha => h.lt a ((erase_mem h.nd hj a).mp ha).1, by simp [h.rl], fun i r hi => ?_, fun r hm t ht => ?_⟩
  · by_cases e : i = L[j]
    · subst e
      rw [List.getElem?_set_self hr] at hi
      cases hi
      have := h.ln L[j] rows[L[j]] (List.getElem?_eq_getElem hr)
      rw [if_pos (List.getElem_mem hj)] at this
      rw [if_neg (fun q => ((erase_mem h.nd hj _).mp q).2 rfl)]
      simp [this]
    · rw [List.getElem?_set_ne (Ne.symm e)] at hi
      rw [h.ln i r hi]
      congr 1
      have : (i ∈ L.eraseIdx j) ↔ i ∈ L := by rw [erase_mem h.nd hj]; exact ⟨fun q => q.1, fun q => ⟨q, e⟩⟩
      simp [this]
  · rcases List.mem_or_eq_of_mem_set hm with q | q
    · exact h.ok r q t ht
    · subst q
      rcases List.mem_append.mp ht with q | q
      · exact h.ok _ (List.getElem_mem _) t q
      · rw [List.mem_singleton] at q
        subst q; exact hs
abbrev mE (count : Nat) (long size : Int) (ll : Bool) (x6 x8 x9 x11 x12 x13 x14 x15 x16 : SV) : En := [.v (.ptr 1), .v (.int (count : Int)), .v (.int long), .v (.int size), .v (.lst (ptrs count)), .v (.bl ll), x6, .un, x8, x9, .un, x11, x12, x13, x14, x15, x16, .un]
def ItOk (t : St3) : Prop := -9 ≤ t.1 ∧ -9 ≤ t.2.1 ∧ 0 ≤ t.2.2 ∧ t.2.2 ≤ 3
theorem pmin_ok (a : Int) : ∃ m, pMin2 (.int a) (.int 9) = some (.int m) ∧ m ≤ 9 ∧ (-9 ≤ a → -9 ≤ m) := by
  simp only [pMin2]
  by_cases h : (9 : Int) < a
  · exact ⟨9, by simp [h], by omega, by omega⟩
  · exact ⟨a, by simp [h], by omega, fun h => h⟩
theorem left_ne (count : Nat) (long size : Int) (ll : Bool) (x6 x9 x11 x12 x13 x14 x15 x16 : SV) (L : List Nat) (S : Sto) : eP2 pNeK (pN 8) (pA (eLst (esNil))) (mE count long size ll x6 (.own (.lst (L.map eK))) x9 x11 x12 x13 x14 x15 x16) S = .ok (.bl (!L.isEmpty)) S :=
  p2_ok (pO_ok rfl) (pA_ok (lstS aN)) (ne_nil L)
/-- one is let in -/
theorem turn_ok {count beat : Nat} {long size : Int} {ll : Bool} {x6 x9 x11 x12 x16 : SV} (n16 : nlk x16) (t : St3) (ht : ItOk t) {L : List Nat} {rows : List (List St3)} {S : Sto} (hT : TownR (cells rows) S) (hL : Lf count beat L rows) (c1 : count ≤ 6) (hb : beat ≤ 100) :
    StI (sSeq (sIf (eP2 pNeK (pN 8) (pA (eLst (esNil)))) (sSeq (sPop 16 8 (eIf (eVar 5) (eC (.int 0)) (eCall f_law_draw (esCons (eVar 0) (esCons (eP1 pLen (pN 8)) (esNil)))))) (sSeq (sAppC (eP2 pIdx (pN 4) (pN 16)) (eTup (esCons (eP2 pMin2 (pN 13) (pA (eC (.int 9)))) (esCons (eP2 pMin2 (pN 14) (pA (eC (.int 9)))) (esCons (eIf (eP2 pGt (pA (eCall f_law_draw (esCons (eVar 0) (esCons (eC (.int 9)) (esNil))))) (pA (eC (.int 0)))) (eVar 15) (eCall f_law_draw (esCons (eVar 0) (esCons (eC (.int 4)) (esNil))))) (esNil)))))) (sNil))) (sNil)) (sNil))
      (mE count long size ll x6 (.own (.lst (L.map eK))) x9 x11 x12 (.v (.int t.1)) (.v (.int t.2.1)) (.v (.int t.2.2)) x16) S
      fun env S' => ∃ (L' : List Nat) (rows' : List (List St3)) (y16 : SV), env = mE count long size ll x6 (.own (.lst (L'.map eK))) x9 x11 x12 (.v (.int t.1)) (.v (.int t.2.1)) (.v (.int t.2.2)) y16 ∧ nlk y16 ∧ TownR (cells rows') S' ∧ Lf count beat L' rows' ∧ (L = [] → L' = []) ∧ (L ≠ [] → L'.length < L.length) := by
  refine siNxN (siIfS (left_ne ..) ?_)
  cases hLe : L with
  | nil => exact siNil (siNil ⟨[], rows, x16, rfl, n16, hT, hLe ▸ hL, fun _ => rfl, fun h => absurd rfl h⟩)
  | cons a0 L0 =>
    rw [← hLe]
    have lpos : 0 < L.length := by rw [hLe]; simp
    have llen : L.length ≤ count := by
      have := List.Nodup.length_le_of_subset hL.nd (l₂ := List.range count) fun a ha => List.mem_range.mpr (hL.lt a ha)
      simpa using this
    -- the place that is taken
    have hk : EvI (eIf (eVar 5) (eC (.int 0)) (eCall f_law_draw (esCons (eVar 0) (esCons (eP1 pLen (pN 8)) (esNil))))) (mE count long size ll x6 (.own (.lst (L.map eK))) x9 x11 x12 (.v (.int t.1)) (.v (.int t.2.1)) (.v (.int t.2.2)) x16) S fun v S' => ∃ j : Int, v = .int j ∧ 0 ≤ j ∧ j < L.length ∧ TownR (cells rows) S' := by
      refine eiIf (eiP (eV_ok (x := .bl ll)) ⟨ll, rfl, ?_⟩)
      cases ll with
      | true => exact (if_pos rfl).mpr (eiP eC_ok ⟨0, rfl, by omega, by omega, hT⟩)
      | false => exact (if_neg Bool.false_ne_true).mpr (ei_draw (n := 0) hT rfl (p1_ok (pO_ok rfl) (show pLen (.lst (L.map eK)) = some (.int L.length) by simp [pLen])) (by omega) (by omega) fun r S' hT r0 r1 => ⟨r, rfl, r0, r1, hT⟩)
    rw [show (!L.isEmpty) = true by rw [hLe]; rfl]
    refine (if_pos rfl).mpr (siNxN (siPop rfl (by decide) ?_))
    obtain ⟨v, S1, e1, j, rfl, j0, j1, hT1⟩ := hk
    have hj : j.toNat < L.length := by omega
    have hLj : L[j.toNat]! = L[j.toNat] := getElem!_pos L _ hj
    have hlt : L[j.toNat] < count := hL.lt _ (List.getElem_mem hj)
    have hrl : L[j.toNat] < rows.length := by rw [hL.rl]; exact hlt
    refine ⟨_, S1, e1, _, _, mE count long size ll x6 (.own (.lst ((L.eraseIdx j.toNat).map eK))) x9 x11 x12 (.v (.int t.1)) (.v (.int t.2.1)) (.v (.int t.2.2)) (.v (eK L[j.toNat])), pop_at L j0 j1 (by omega), ?_, ?_⟩
    · rw [hLj]
      exact put_nlk rfl n16
    · obtain ⟨m1, p1, q1, w1⟩ := pmin_ok t.1
      obtain ⟨m2, p2, q2, w2⟩ := pmin_ok t.2.1
      have ix : pIdx (.lst (ptrs count)) (eK L[j.toNat]) = some (.ptr (2 + L[j.toNat])) := by
        have := idx_l (List.range count) (fun i => PV.ptr (2 + i)) (i := 0 + (L[j.toNat] : Int)) (by omega) (by simp; omega)
        rw [show (0 + (L[j.toNat] : Int)).toNat = L[j.toNat] by omega, getElem!_pos (List.range count) _ (by simpa using hlt), List.getElem_range] at this
        exact this
      have fin : ∀ (w : Int) (S3 : Sto), TownR (cells rows) S3 → 0 ≤ w → w ≤ 3 → ∃ (ys : List PV), S3[2 + L[j.toNat]]? = some (.lst ys) ∧ ys.length ≤ 1000000 ∧ StI sNil (mE count long size ll x6 (.own (.lst ((L.eraseIdx j.toNat).map eK))) x9 x11 x12 (.v (.int t.1)) (.v (.int t.2.1)) (.v (.int t.2.2)) (.v (eK L[j.toNat]))) (S3.set (2 + L[j.toNat]) (.lst (ys ++ [.tup [.int m1, .int m2, .int w]]))) fun env S' => StI sNil env S' fun env S' => ∃ (L' : List Nat) (rows' : List (List St3)) (y16 : SV), env = mE count long size ll x6 (.own (.lst (L'.map eK))) x9 x11 x12 (.v (.int t.1)) (.v (.int t.2.1)) (.v (.int t.2.2)) y16 ∧ nlk y16 ∧ TownR (cells rows') S' ∧ Lf count beat L' rows' ∧ (L = [] → L' = []) ∧ (L ≠ [] → L'.length < L.length) := fun w S3 hT3 w0 w3 => by
        refine ⟨rows[L[j.toNat]].map eS, cell_at hT3 hrl, ?_, siNil (siNil ⟨L.eraseIdx j.toNat, rows.set L[j.toNat] (rows[L[j.toNat]] ++ [(m1, m2, w)]), .v (eK L[j.toNat]), rfl, nlk_v _, ?_, hL.step hj hrl ?_, fun h => (by rw [h] at lpos; simp at lpos), fun _ => (by rw [List.length_eraseIdx_of_lt hj]; omega)⟩)⟩
        · have := hL.ln L[j.toNat] _ (List.getElem?_eq_getElem hrl)
          rw [List.length_map, this]
          split <;> omega
        · have := cell_set hT3 L[j.toNat] (rows[L[j.toNat]] ++ [(m1, m2, w)])
          rw [List.map_append] at this
          exact this
        · exact ⟨w1 ht.1, q1, w2 ht.2.1, q2, w0, w3⟩
      refine siNxN (siAppC (p2_ok pN_ok pN_ok ix) (cell_at hT1 hrl) (eiT (elC (eiP (p2_ok pN_ok (pA_ok eC_ok) p1) (elC (eiP (p2_ok pN_ok (pA_ok eC_ok) p2) (elC (eiIf (ei2l fxC (ei_draw (n := 0) hT1 rfl eC_ok (by decide) (by decide) fun r S2 hT2 r0 r1 => ⟨rfl, _, rfl, decide (0 < r), rfl, ?_⟩))))))))))
      by_cases hr : 0 < r
      · rw [if_pos (by simpa using hr)]
        obtain ⟨ys, f1, f2, f3⟩ := fin t.2.2 S2 hT2 ht.2.2.1 ht.2.2.2
        exact eiP eV_ok (elN ⟨by simp, ys, f1, f2, f3⟩)
      · rw [if_neg (by simpa using hr)]
        refine ei_draw (n := 0) hT2 rfl eC_ok (by decide) (by decide) fun r2 S3 hT3 r20 r21 => ?_
        obtain ⟨ys, f1, f2, f3⟩ := fin r2 S3 hT3 r20 (by omega)
        exact elN ⟨by simp, ys, f1, f2, f3⟩
end M01

set_option maxRecDepth 100000
set_option maxHeartbeats 1000000
namespace M01
open PySem Hw G01
abbrev itemsX : Ex := eLst (esCons (eTup (esCons (eVar 11) (esCons (eVar 12) (esCons (eC (.int 0)) (esNil))))) (esCons (eTup (esCons (eP2 pAdd (pN 11) (pA (eC (.int 1)))) (esCons (eVar 12) (esCons (eC (.int 2)) (esNil))))) (esCons (eTup (esCons (eVar 11) (esCons (eP2 pAdd (pN 12) (pA (eC (.int 1)))) (esCons (eC (.int 3)) (esNil))))) (esNil))))
abbrev pickX : Ex := eCall f_law_pick (esCons (eVar 0) (esCons (eIf (eVar 5) (eLst (esCons (eC (.int 1)) (esCons (eC (.int 2)) (esCons (eC (.int 1)) (esCons (eC (.int 2)) (esCons (eC (.int 2)) (esCons (eC (.int 1)) (esNil)))))))) (eLst (esCons (eC (.int 2)) (esCons (eC (.int 2)) (esCons (eC (.int 2)) (esCons (eC (.int 2)) (esCons (eC (.int 1)) (esCons (eC (.int 3)) (esNil))))))))) (esNil)))
theorem pick_x {count : Nat} {long size : Int} {ll : Bool} {x6 x8 x9 x11 x12 x13 x14 x15 x16 : SV} {rest S : Sto} (hT : TownR rest S) : EvI pickX (mE count long size ll x6 x8 x9 x11 x12 x13 x14 x15 x16) S fun v S' => (v = .int 1 ∨ v = .int 2 ∨ v = .int 3) ∧ TownR rest S' := by
  have go : ∀ xs : List PV, (∀ x ∈ xs, x = .int 1 ∨ x = .int 2 ∨ x = .int 3) → xs ≠ [] → xs.length < 1000 → ∃ v S', f_law_pick [.ptr 1, .lst xs] S = .ok v S' ∧ (v = .int 1 ∨ v = .int 2 ∨ v = .int 3) ∧ TownR rest S' := fun xs h1 h2 h3 => by
    obtain ⟨x, S', e, hx, hT'⟩ := pick_ok hT xs h2 h3 fun x hx => by rcases h1 x hx with rfl | rfl | rfl <;> rfl
    exact ⟨x, S', e, h1 x hx, hT'⟩
  refine eiCall (elC (eiP eV_ok (elC (eiIf (eiP (eV_ok (x := .bl ll)) ⟨ll, rfl, ?_⟩)))))
  cases ll with
  | true => exact (if_pos rfl).mpr (eiP (lstS (aC eC_ok (aC eC_ok (aC eC_ok (aC eC_ok (aC eC_ok (aC eC_ok aN))))))) (elN (go _ (by simp) (by simp) (by simp))))
  | false => exact (if_neg Bool.false_ne_true).mpr (eiP (lstS (aC eC_ok (aC eC_ok (aC eC_ok (aC eC_ok (aC eC_ok (aC eC_ok aN))))))) (elN (go _ (by simp) (by simp) (by simp))))
theorem itOk {a b c : Int} (h0 : -9 ≤ a) (h1 : -9 ≤ b) (h2 : 0 ≤ c) (h3 : c ≤ 3) : ItOk (a, b, c) := ⟨h0, h1, h2, h3⟩
theorem items_ok {count : Nat} {long size : Int} {ll : Bool} {x6 x8 x9 x13 x14 x15 x16 : SV} {rest S : Sto} (hT : TownR rest S) {x y : Int} (hx : -8 ≤ x) (hy : 0 ≤ y) : ∃ (items : List St3) (S' : Sto), iP (pA (eCut (pA itemsX) none (some pickX))) (mE count long size ll x6 x8 x9 (.v (.int x)) (.v (.int y)) x13 x14 x15 x16) S = .ok (items.map eS) S' ∧ TownR rest S' ∧ items ≠ [] ∧ ∀ t ∈ items, ItOk t := by
  have e1 : ∀ S, itemsX (mE count long size ll x6 x8 x9 (.v (.int x)) (.v (.int y)) x13 x14 x15 x16) S = .ok (.lst ([(x, y, 0), (x + 1, y, 2), (x, y + 1, 3)].map eS)) S := fun S =>
    lstS (aC (tupS (aC eV_ok (aC eV_ok (aC eC_ok aN)))) (aC (tupS (aC (p2_ok pN_ok (pA_ok eC_ok) rfl) (aC eV_ok (aC eC_ok aN)))) (aC (tupS (aC eV_ok (aC (p2_ok pN_ok (pA_ok eC_ok) rfl) (aC eC_ok aN)))) aN)))
  obtain ⟨v, S1, e2, hv, hT1⟩ := pick_x (count := count) (long := long) (size := size) (ll := ll) (x6 := x6) (x8 := x8) (x9 := x9) (x11 := .v (.int x)) (x12 := .v (.int y)) (x13 := x13) (x14 := x14) (x15 := x15) (x16 := x16) hT
  have go : ∀ (n : Int) (items : List St3), v = .int n → cutP ([(x, y, 0), (x + 1, y, 2), (x, y + 1, 3)].map eS) none (some n) = items.map eS → iP (pA (eCut (pA itemsX) none (some pickX))) (mE count long size ll x6 x8 x9 (.v (.int x)) (.v (.int y)) x13 x14 x15 x16) S = .ok (items.map eS) S1 := fun n items hn hc => by
    subst hn
    have : eCut (pA itemsX) none (some pickX) (mE count long size ll x6 x8 x9 (.v (.int x)) (.v (.int y)) x13 x14 x15 x16) S = .ok (.lst (items.map eS)) S1 := by
      simp only [eCut, pA, e1, R.bind, eOpt, e2, plOf, res, pCut, hc, R.opt]
    simp only [iP, pA, this, R.bind, plOf, itemsOf, R.opt]
  rcases hv with rfl | rfl | rfl
  · refine ⟨[(x, y, 0)], S1, go 1 _ rfl rfl, hT1, by simp, fun t ht => ?_⟩
    simp at ht
    subst ht
    exact itOk (by omega) (by omega) (by decide) (by decide)
  · refine ⟨[(x, y, 0), (x + 1, y, 2)], S1, go 2 _ rfl rfl, hT1, by simp, fun t ht => ?_⟩
    simp at ht
    rcases ht with rfl | rfl
    · exact itOk (by omega) (by omega) (by decide) (by decide)
    · exact itOk (by omega) (by omega) (by decide) (by decide)
  · refine ⟨[(x, y, 0), (x + 1, y, 2), (x, y + 1, 3)], S1, go 3 _ rfl rfl, hT1, by simp, fun t ht => ?_⟩
    simp at ht
    rcases ht with rfl | rfl | rfl
    · exact itOk (by omega) (by omega) (by decide) (by decide)
    · exact itOk (by omega) (by omega) (by decide) (by decide)
    · exact itOk (by omega) (by omega) (by decide) (by decide)
abbrev turnX : Sm := sSeq (sIf (eP2 pNeK (pN 8) (pA (eLst (esNil)))) (sSeq (sPop 16 8 (eIf (eVar 5) (eC (.int 0)) (eCall f_law_draw (esCons (eVar 0) (esCons (eP1 pLen (pN 8)) (esNil)))))) (sSeq (sAppC (eP2 pIdx (pN 4) (pN 16)) (eTup (esCons (eP2 pMin2 (pN 13) (pA (eC (.int 9)))) (esCons (eP2 pMin2 (pN 14) (pA (eC (.int 9)))) (esCons (eIf (eP2 pGt (pA (eCall f_law_draw (esCons (eVar 0) (esCons (eC (.int 9)) (esNil))))) (pA (eC (.int 0)))) (eVar 15) (eCall f_law_draw (esCons (eVar 0) (esCons (eC (.int 4)) (esNil))))) (esNil)))))) (sNil))) (sNil)) (sNil)
theorem turns_ok {count beat : Nat} {long size : Int} {ll : Bool} {x6 x9 x13 x14 x15 x16 : SV} (n13 : nlk x13) (n14 : nlk x14) (n15 : nlk x15) (n16 : nlk x16) {L : List Nat} {rows : List (List St3)} {S : Sto} (hT : TownR (cells rows) S) (hL : Lf count beat L rows) (c1 : count ≤ 6) (hb : beat ≤ 100) {x y : Int} (hx : -8 ≤ x) (hy : 0 ≤ y) (hne : L ≠ []) :
    StI (sFor (iP (pA (eCut (pA itemsX) none (some pickX)))) (tgT [13, 14, 15]) turnX) (mE count long size ll x6 (.own (.lst (L.map eK))) x9 (.v (.int x)) (.v (.int y)) x13 x14 x15 x16) S
      fun env S' => ∃ (L' : List Nat) (rows' : List (List St3)) (y13 y14 y15 y16 : SV), env = mE count long size ll x6 (.own (.lst (L'.map eK))) x9 (.v (.int x)) (.v (.int y)) y13 y14 y15 y16 ∧ nlk y13 ∧ nlk y14 ∧ nlk y15 ∧ nlk y16 ∧ TownR (cells rows') S' ∧ Lf count beat L' rows' ∧ L'.length < L.length := by
  obtain ⟨items, S1, e1, hT1, hi, ht⟩ := items_ok (count := count) (long := long) (size := size) (ll := ll) (x6 := x6) (x8 := .own (.lst (L.map eK))) (x9 := x9) (x13 := x13) (x14 := x14) (x15 := x15) (x16 := x16) hT hx hy
  have := siFor (g := tgT [13, 14, 15]) (body := turnX) items eS (fun done env S' => ∃ (L' : List Nat) (rows' : List (List St3)) (y13 y14 y15 y16 : SV), env = mE count long size ll x6 (.own (.lst (L'.map eK))) x9 (.v (.int x)) (.v (.int y)) y13 y14 y15 y16 ∧ nlk y13 ∧ nlk y14 ∧ nlk y15 ∧ nlk y16 ∧ TownR (cells rows') S' ∧ Lf count beat L' rows' ∧ (done = [] → L' = L) ∧ (done ≠ [] → L'.length < L.length)) e1
    ⟨L, rows, x13, x14, x15, x16, rfl, n13, n14, n15, n16, hT1, hL, fun _ => rfl, fun h => absurd rfl h⟩ ?_
  · obtain ⟨env, S2, h1, L', rows', y13, y14, y15, y16, h2, h3, h4, h5, h6, h7, h8, _, h9⟩ := this
    exact ⟨env, S2, h1, L', rows', y13, y14, y15, y16, h2, h3, h4, h5, h6, h7, h8, h9 hi⟩
  · rintro done t rest hd env S2 ⟨L', rows', y13, y14, y15, y16, rfl, h3, h4, h5, h6, h7, h8, h9, h10⟩
    have htm : t ∈ items := by rw [hd]; simp
    refine ⟨mE count long size ll x6 (.own (.lst (L'.map eK))) x9 (.v (.int x)) (.v (.int y)) (.v (.int t.1)) (.v (.int t.2.1)) (.v (.int t.2.2)) y16, ?_, ?_⟩
    · cases y13 <;> cases y14 <;> cases y15 <;> first | rfl | exact absurd rfl (h3 _) | exact absurd rfl (h4 _) | exact absurd rfl (h5 _)
    · obtain ⟨e, S3, g1, L2, rows2, z16, rfl, g2, g3, g4, g5, g6⟩ := turn_ok (x11 := .v (.int x)) (x12 := .v (.int y)) h6 t (ht t htm) h7 h8 c1 hb
      refine ⟨_, S3, g1, L2, rows2, _, _, _, z16, rfl, nlk_v _, nlk_v _, nlk_v _, g2, g3, g4, fun h => by simp at h, fun _ => ?_⟩
      by_cases hd0 : done = []
      · rw [h9 hd0] at g6
        exact g6 hne
      · have := h10 hd0
        by_cases hl : L' = []
        · rw [g5 hl]
          exact List.length_pos_iff.mpr hne
        · have := g6 hl
          omega
theorem pop0 (p : Int) (xs : List PV) : popP (.lst (.int p :: xs)) (.int 0) = some (.lst xs, .int p) := by
  have e : seqIndex? 0 ((PV.int p :: xs).length) = some 0 := by
    unfold seqIndex?
    have : (0 : Int) < ((PV.int p :: xs).length : Int) := by simp
    simp [this]
  unfold popP
  dsimp only
  rw [e]
  rfl
end M01

set_option maxRecDepth 100000
set_option maxHeartbeats 1000000
namespace M01
open PySem Hw G01
abbrev spotX : Sm := sPopIf 11 9 (eP2 pGt (pA (eP1 pLen (pN 9))) (pA (eC (.int 0)))) (eC (.int 0)) (eC (.int 0))
abbrev whileX : Sm := sSeq spotX (sSeq (sPut (tgN 12) (eIf (eP2 pGt (pA (eP1 pLen (pN 9))) (pA (eC (.int 0)))) (eP2 pMul (pA (eC (.int 5))) (pA (eP2 pMod (pA (eP1 pLen (pN 9))) (pA (eC (.int 2)))))) (eC (.int 9)))) (sSeq (sFor (iP (pA (eCut (pA itemsX) none (some pickX)))) (tgT [13, 14, 15]) turnX) (sNil)))
/-- all are let in -/
theorem while_ok {count beat : Nat} {long size : Int} {ll : Bool} {x6 : SV} (c1 : count ≤ 6) (hb : beat ≤ 100) {L : List Nat} {P : List Int} {rows : List (List St3)} {S : Sto} {x11 x12 x13 x14 x15 x16 : SV} (n11 : nlk x11) (n12 : nlk x12) (n13 : nlk x13) (n14 : nlk x14) (n15 : nlk x15) (n16 : nlk x16) (hT : TownR (cells rows) S) (hL : Lf count beat L rows) (hl : L.length ≤ 6) (hP : ∀ p ∈ P, -8 ≤ p) :
    ∃ env S', whileLoop (eP2 pNeK (pN 8) (pA (eLst (esNil)))) whileX fuel (mE count long size ll x6 (.own (.lst (L.map eK))) (.own (.lst (P.map .int))) x11 x12 x13 x14 x15 x16) S = .nx env S' ∧
      ∃ (rows' : List (List St3)) (x9 y11 y12 y13 y14 y15 y16 : SV), env = mE count long size ll x6 (.own (.lst [])) x9 y11 y12 y13 y14 y15 y16 ∧ nlk x9 ∧ nlk y11 ∧ nlk y12 ∧ nlk y13 ∧ nlk y14 ∧ nlk y15 ∧ nlk y16 ∧ TownR (cells rows') S' ∧ Lf count beat [] rows' := by
  refine siWhile (c := eP2 pNeK (pN 8) (pA (eLst (esNil)))) (sa := whileX) (fun m env S => ∃ (L : List Nat) (P : List Int) (rows : List (List St3)) (x11 x12 x13 x14 x15 x16 : SV), m = L.length ∧ env = mE count long size ll x6 (.own (.lst (L.map eK))) (.own (.lst (P.map .int))) x11 x12 x13 x14 x15 x16 ∧ nlk x11 ∧ nlk x12 ∧ nlk x13 ∧ nlk x14 ∧ nlk x15 ∧ nlk x16 ∧ TownR (cells rows) S ∧ Lf count beat L rows ∧ ∀ p ∈ P, -8 ≤ p) ?_ fuel L.length _ S (by unfold fuel; omega) ⟨L, P, rows, x11, x12, x13, x14, x15, x16, rfl, rfl, n11, n12, n13, n14, n15, n16, hT, hL, hP⟩
  rintro m env S ⟨L, P, rows, x11, x12, x13, x14, x15, x16, rfl, rfl, n11, n12, n13, n14, n15, n16, hT, hL, hP⟩
  refine ⟨!L.isEmpty, left_ne .., ?_⟩
  by_cases hne : L = []
  · subst hne
    exact (if_neg (by simp)).mpr ⟨rows, _, x11, x12, x13, x14, x15, x16, rfl, fun _ => by simp, n11, n12, n13, n14, n15, n16, hT, hL⟩
  · have : (!L.isEmpty) = true := by cases L <;> first | exact absurd rfl hne | rfl
    refine (if_pos this).mpr (siNxN ?_)
    -- the spot
    have spot : ∃ (x : Int) (P' : List Int), spotX (mE count long size ll x6 (.own (.lst (L.map eK))) (.own (.lst (P.map .int))) x11 x12 x13 x14 x15 x16) S = .nx (mE count long size ll x6 (.own (.lst (L.map eK))) (.own (.lst (P'.map .int))) (.v (.int x)) x12 x13 x14 x15 x16) S ∧ -8 ≤ x ∧ ∀ p ∈ P', -8 ≤ p := by
      have hc : eP2 pGt (pA (eP1 pLen (pN 9))) (pA (eC (.int 0))) (mE count long size ll x6 (.own (.lst (L.map eK))) (.own (.lst (P.map .int))) x11 x12 x13 x14 x15 x16) S = .ok (.bl (decide (0 < (P.length : Int)))) S := p2_ok (pA_ok (p1_ok (pO_ok rfl) (show pLen (.lst (P.map .int)) = some (.int P.length) by simp [pLen]))) (pA_ok eC_ok) rfl
      cases P with
      | nil =>
        refine ⟨0, [], ?_, by decide, by simp⟩
        have hs : setV 11 (.v (.int 0)) (mE count long size ll x6 (.own (.lst (L.map eK))) (.own (.lst [])) x11 x12 x13 x14 x15 x16) = some (mE count long size ll x6 (.own (.lst (L.map eK))) (.own (.lst [])) (.v (.int 0)) x12 x13 x14 x15 x16) := put_nlk rfl n11
        simp only [spotX, sPopIf, sIf, hc]
        simp [sPut, eC, tgN, hs]
      | cons p P =>
        refine ⟨p, P, ?_, hP p (by simp), fun q hq => hP q (by simp [hq])⟩
        have hs : setV 11 (.v (.int p)) ((mE count long size ll x6 (.own (.lst (L.map eK))) (.own (.lst ((p :: P).map .int))) x11 x12 x13 x14 x15 x16).set 9 (.own (.lst (P.map .int)))) = some (mE count long size ll x6 (.own (.lst (L.map eK))) (.own (.lst (P.map .int))) (.v (.int p)) x12 x13 x14 x15 x16) := put_nlk rfl n11
        have hd : decide (0 < (((p :: P).length : Nat) : Int)) = true := decide_eq_true (by simp)
        rw [hd] at hc
        simp only [spotX, sPopIf, sIf, hc]
        have := siPop (t := 11) (i := 9) (k := eC (.int 0)) (env := mE count long size ll x6 (.own (.lst (L.map eK))) (.own (.lst ((p :: P).map .int))) x11 x12 x13 x14 x15 x16) (S := S) (xs := (p :: P).map .int) (QE := fun e S' => e = mE count long size ll x6 (.own (.lst (L.map eK))) (.own (.lst (P.map .int))) (.v (.int p)) x12 x13 x14 x15 x16 ∧ S' = S) rfl (by decide) (eiP eC_ok ⟨_, _, _, pop0 p (P.map .int), hs, rfl, rfl⟩)
        obtain ⟨e, S2, g1, rfl, rfl⟩ := this
        exact g1
    obtain ⟨x, P', e1, hx, hP'⟩ := spot
    refine ⟨_, S, e1, siNxN ?_⟩
    -- y
    have hy : ∃ y : Int, eIf (eP2 pGt (pA (eP1 pLen (pN 9))) (pA (eC (.int 0)))) (eP2 pMul (pA (eC (.int 5))) (pA (eP2 pMod (pA (eP1 pLen (pN 9))) (pA (eC (.int 2)))))) (eC (.int 9)) (mE count long size ll x6 (.own (.lst (L.map eK))) (.own (.lst (P'.map .int))) (.v (.int x)) x12 x13 x14 x15 x16) S = .ok (.int y) S ∧ 0 ≤ y := by
      have hn : eP1 pLen (pN 9) (mE count long size ll x6 (.own (.lst (L.map eK))) (.own (.lst (P'.map .int))) (.v (.int x)) x12 x13 x14 x15 x16) S = .ok (.int P'.length) S := p1_ok (pO_ok rfl) (show pLen (.lst (P'.map .int)) = some (.int P'.length) by simp [pLen])
      have hc : eP2 pGt (pA (eP1 pLen (pN 9))) (pA (eC (.int 0))) (mE count long size ll x6 (.own (.lst (L.map eK))) (.own (.lst (P'.map .int))) (.v (.int x)) x12 x13 x14 x15 x16) S = .ok (.bl (decide (0 < (P'.length : Int)))) S := p2_ok (pA_ok hn) (pA_ok eC_ok) rfl
      have hm : eP2 pMul (pA (eC (.int 5))) (pA (eP2 pMod (pA (eP1 pLen (pN 9))) (pA (eC (.int 2))))) (mE count long size ll x6 (.own (.lst (L.map eK))) (.own (.lst (P'.map .int))) (.v (.int x)) x12 x13 x14 x15 x16) S = .ok (.int (5 * ((P'.length : Int) % 2))) S := by
        refine p2_ok (pA_ok eC_ok) (pA_ok (p2_ok (pA_ok hn) (pA_ok eC_ok) (pmod_ok (by decide)))) ?_
        unfold pMul
        exact if_pos (by unfold cmulB; rw [Bool.or_eq_true, Bool.and_eq_true]; exact .inl ⟨rfl, rfl⟩)
      unfold eIf
      rw [hc]
      by_cases hp : 0 < (P'.length : Int)
      · rw [decide_eq_true hp]
        exact ⟨_, hm, by omega⟩
      · rw [decide_eq_false hp]
        exact ⟨9, rfl, by decide⟩
    obtain ⟨y, e2, hy⟩ := hy
    have hs : tgN 12 (.int y) (mE count long size ll x6 (.own (.lst (L.map eK))) (.own (.lst (P'.map .int))) (.v (.int x)) x12 x13 x14 x15 x16) = some (mE count long size ll x6 (.own (.lst (L.map eK))) (.own (.lst (P'.map .int))) (.v (.int x)) (.v (.int y)) x13 x14 x15 x16) := put_nlk rfl n12
    refine ⟨mE count long size ll x6 (.own (.lst (L.map eK))) (.own (.lst (P'.map .int))) (.v (.int x)) (.v (.int y)) x13 x14 x15 x16, S, by simp [sPut, e2, hs], siNxN ?_⟩
    obtain ⟨e, S3, g1, L2, rows2, y13, y14, y15, y16, rfl, g2, g3, g4, g5, g6, g7, g8⟩ := turns_ok (long := long) (size := size) (ll := ll) (x6 := x6) (x9 := .own (.lst (P'.map .int))) n13 n14 n15 n16 hT hL c1 hb hx hy hne
    exact ⟨_, S3, g1, siNil ⟨L2.length, g8, L2, P', rows2, _, _, y13, y14, y15, y16, rfl, rfl, nlk_v _, nlk_v _, g2, g3, g4, g5, g6, g7, hP'⟩⟩
end M01

set_option maxRecDepth 100000
set_option maxHeartbeats 1000000
namespace M01
open PySem Hw G01
theorem lr_okI {d : Ex} {env : En} {S : Sto} {i : Int} (h : d env S = .ok (.int i) S) (h0 : 0 ≤ i) (h1 : i ≤ 1000) : eLR d env S = .ok (.lst ((List.range i.toNat).map eK)) S := by
  have h3 : (decide (0 ≤ i) && decide (i ≤ 10000000)) = true := by
    rw [Bool.and_eq_true]
    exact ⟨decide_eq_true h0, decide_eq_true (by omega)⟩
  unfold eLR
  rw [h]
  simp only [R.bind]
  rw [if_pos h3]
  rfl
theorem lr_ok {d : Ex} {env : En} {S : Sto} {j : Nat} (h : d env S = .ok (.int (j : Int)) S) (h1 : j ≤ 1000) : eLR d env S = .ok (.lst ((List.range j).map eK)) S := by
  have e := lr_okI h (Int.natCast_nonneg j) (Int.ofNat_le.mpr h1)
  rw [Int.toNat_natCast] at e
  exact e
abbrev spotsX : Ex := eLst (esCons (eP2 pSub (pA (eC (.int 0))) (pA (eC (.int 8)))) (esCons (eP2 pSub (pA (eC (.int 0))) (pA (eC (.int 2)))) (esCons (eC (.int 4)) (esCons (eP2 pSub (pA (eP2 pAdd (pA (eP2 pSub (pA (eC (.int 0))) (pA (eC (.int 8))))) (pA (eP2 pMul (pA (eC (.int 6))) (pA (eC (.int 3))))))) (pA (eC (.int 1)))) (esNil)))))
theorem spots_ok (env : En) (S : Sto) : spotsX env S = .ok (.lst ([-8, -2, 4, 9].map PV.int)) S :=
  lstS (aC (p2_ok (pA_ok eC_ok) (pA_ok eC_ok) rfl) (aC (p2_ok (pA_ok eC_ok) (pA_ok eC_ok) rfl) (aC eC_ok (aC (p2_ok (pA_ok (p2_ok (pA_ok (p2_ok (pA_ok eC_ok) (pA_ok eC_ok) rfl)) (pA_ok (p2_ok (pA_ok eC_ok) (pA_ok eC_ok) (show pMul (.int 6) (.int 3) = some (.int 18) by simp [pMul, cmulB]))) rfl)) (pA_ok eC_ok) rfl) aN))))
abbrev beatX : Sm := sSeq (sOwn 8 (eLR (eVar 1))) (sSeq (sOwn 9 spotsX) (sSeq (sWhile (eP2 pNeK (pN 8) (pA (eLst (esNil)))) whileX) (sNil)))
structure Nl (x8 x9 x11 x12 x13 x14 x15 x16 : SV) : Prop where
  a : nlk x8
  b : nlk x9
  c : nlk x11
  d : nlk x12
  e : nlk x13
  f : nlk x14
  g : nlk x15
  h : nlk x16
theorem beats_ok {count : Nat} {long : Int} {size : Nat} {ll : Bool} (c1 : count ≤ 6) (hs : size ≤ 6) {rows : List (List St3)} {S : Sto} (hT : TownR (cells rows) S) (hr : rows.length = count) (h0 : ∀ r ∈ rows, r = []) :
    StI (sFor (iR1 (eVar 3)) (tgN 6) beatX) (mE count long (size : Int) ll .un .un .un .un .un .un .un .un .un) S
      fun env S' => ∃ (rows' : List (List St3)) (x6 x8 x9 y11 y12 y13 y14 y15 y16 : SV), env = mE count long (size : Int) ll x6 x8 x9 y11 y12 y13 y14 y15 y16 ∧ TownR (cells rows') S' ∧ rows'.length = count ∧ ∀ r ∈ rows', r.length = size ∧ ∀ s ∈ r, StOk s := by
  have := siFor (it := iR1 (eVar 3)) (g := tgN 6) (body := beatX) (env := mE count long (size : Int) ll .un .un .un .un .un .un .un .un .un) (S := S) (List.range size) eK
    (fun done env S' => ∃ (rows' : List (List St3)) (x6 x8 x9 y11 y12 y13 y14 y15 y16 : SV), env = mE count long (size : Int) ll x6 x8 x9 y11 y12 y13 y14 y15 y16 ∧ nlk x6 ∧ Nl x8 x9 y11 y12 y13 y14 y15 y16 ∧ TownR (cells rows') S' ∧ rows'.length = count ∧ ∀ r ∈ rows', r.length = done.length ∧ ∀ s ∈ r, StOk s) (r1_imp eV_ok (by omega))
    ⟨rows, .un, .un, .un, .un, .un, .un, .un, .un, .un, rfl, nlk_un, ⟨nlk_un, nlk_un, nlk_un, nlk_un, nlk_un, nlk_un, nlk_un, nlk_un⟩, hT, hr, fun r hm => by rw [h0 r hm]; exact ⟨rfl, by simp⟩⟩ ?_
  · obtain ⟨env, S2, h1, rows', x6, x8, x9, y11, y12, y13, y14, y15, y16, h2, h3, h4, h5, h6, h7⟩ := this
    rw [List.length_range] at h7
    exact ⟨env, S2, h1, rows', x6, x8, x9, y11, y12, y13, y14, y15, y16, h2, h5, h6, h7⟩
  · rintro done t rest hd env S2 ⟨rows', x6, x8, x9, y11, y12, y13, y14, y15, y16, rfl, n6, nl, h5, h6, h7⟩
    have hlt : done.length < size := by
      have := congrArg List.length hd
      simp at this
      omega
    have lf : Lf count done.length (List.range count) rows' := ⟨List.nodup_range, fun a ha => List.mem_range.mp ha, h6, fun i r hi => by
      have hi' : i < rows'.length := (List.getElem?_eq_some_iff.mp hi).1
      rw [if_pos (List.mem_range.mpr (by omega))]
      exact (h7 r (List.mem_of_getElem? hi)).1, fun r hm => (h7 r hm).2⟩
    refine ⟨mE count long (size : Int) ll (.v (eK t)) x8 x9 y11 y12 y13 y14 y15 y16, put_nlk rfl n6, siOwnN (eiP (lr_ok eV_ok (by omega)) ⟨mE count long (size : Int) ll (.v (eK t)) (.own (.lst ((List.range count).map eK))) x9 y11 y12 y13 y14 y15 y16, put_nlk rfl nl.a, siOwnN (eiP (spots_ok _ _) ⟨mE count long (size : Int) ll (.v (eK t)) (.own (.lst ((List.range count).map eK))) (.own (.lst ([-8, -2, 4, 9].map PV.int))) y11 y12 y13 y14 y15 y16, put_nlk rfl nl.b, siNxN ?_⟩)⟩)⟩
    obtain ⟨e, S3, g1, rows2, z9, z11, z12, z13, z14, z15, z16, rfl, m9, m11, m12, m13, m14, m15, m16, g3, g4⟩ := while_ok (long := long) (size := (size : Int)) (ll := ll) (x6 := .v (eK t)) (P := [-8, -2, 4, 9]) c1 (by omega) nl.c nl.d nl.e nl.f nl.g nl.h h5 lf (by simpa using c1) (by simp)
    refine ⟨_, S3, g1, siNil ⟨rows2, _, _, z9, z11, z12, z13, z14, z15, z16, rfl, nlk_v _, ⟨fun _ => by simp, m9, m11, m12, m13, m14, m15, m16⟩, g3, g4.rl, fun r hm => ⟨?_, g4.ok r hm⟩⟩⟩
    obtain ⟨i, hi, rfl⟩ := List.getElem_of_mem hm
    have := g4.ln i _ (List.getElem?_eq_getElem hi)
    rw [this]
    simp
end M01

set_option maxRecDepth 100000
set_option maxHeartbeats 1000000
namespace M01
open PySem Hw G01
theorem cells_nil (n : Nat) : List.replicate n (PV.lst []) = cells (List.replicate n []) := by
  unfold cells
  rw [List.map_replicate]
  rfl
theorem siFz {i : Nat} {xs : List PV} {env : En} {S : Sto} {QE : En → Sto → Prop} (h : env[i]? = some (.own (.lst xs))) (hq : QE (env.set i (.v (.lst xs))) S) : StI (sFz i) env S QE := ⟨_, S, by simp [sFz, h], hq⟩
theorem ptr_rows {rows : List (List St3)} {S : Sto} (hT : TownR (cells rows) S) : (List.range rows.length).map (fun i => eRow (rows[i]!)) = rows.map eRow := by
  apply List.ext_getElem
  · simp
  · intro i h1 h2
    have : i < rows.length := by simpa using h2
    simp [this]
theorem meet_ok {S : Sto} (h : TownR [] S) {count : Nat} (c0 : 2 ≤ count) (c1 : count ≤ 6) {long : Int} (l0 : 1 ≤ long) (l1 : long ≤ 4) :
    RtI d_law_meetings [.v (.ptr 1), .v (.int (count : Int)), .v (.int long), .un, .un, .un, .un, .un, .un, .un, .un, .un, .un, .un, .un, .un, .un, .un] S fun v S' => ∃ reach rows bar, v = eCr reach rows bar ∧ (∃ rest, TownR rest S') ∧ Good reach rows bar ∧ rows.length = count := by
  refine siPut (ei_nat (b := 3) (t := 0) (d := eVar 2) h rfl eV_ok (by omega) (by omega) fun size S1 hT1 m0 m1 => ⟨_, rfl, ?_⟩)
  have hs : size ≤ 6 := by omega
  -- the boxes
  have hbox : eLC (iR1 (eVar 1)) [10] (tgN 10) (eYes) (eBox (eLst esNil)) [.v (.ptr 1), .v (.int (count : Int)), .v (.int long), .v (.int (size : Int)), .un, .un, .un, .un, .un, .un, .un, .un, .un, .un, .un, .un, .un, .un] S1 = .ok (.lst (ptrs count)) (S1 ++ List.replicate count (.lst [])) := by
    have hl : S1.length = 2 := by obtain ⟨_, _, _, rfl⟩ := hT1; rfl
    have b := box_loop [.v (.ptr 1), .v (.int (count : Int)), .v (.int long), .v (.int (size : Int)), .un, .un, .un, .un, .un, .un, .un, .un, .un, .un, .un, .un, .un, .un] ⟨.un, rfl, nlk_un⟩ (List.range count) S1
    rw [hl, List.length_range] at b
    unfold eLC
    rw [r1_imp (eV_ok (x := .int (count : Int))) (by omega)]
    have hw : wipeE [10] [SV.v (.ptr 1), .v (.int (count : Int)), .v (.int long), .v (.int (size : Int)), .un, .un, .un, .un, .un, .un, .un, .un, .un, .un, .un, .un, .un, .un] = some [SV.v (.ptr 1), .v (.int (count : Int)), .v (.int long), .v (.int (size : Int)), .un, .un, .un, .un, .un, .un, .un, .un, .un, .un, .un, .un, .un, .un] := rfl
    simp only [R.bind, hw]
    rw [if_pos (by simp; omega), b]
    rfl
  have hT2 : TownR (cells (List.replicate count [])) (S1 ++ List.replicate count (.lst [])) := by
    rw [cells_nil]
    obtain ⟨N, c, hN, rfl⟩ := hT1
    exact ⟨N, c, hN, rfl⟩
  generalize S1 ++ List.replicate count (.lst []) = S2 at hbox hT2
  refine siOwn ⟨_, S2, hbox, _, rfl, siNx (siFz rfl (siPut ?_))⟩
  refine ei2l fxC (ei_draw (n := 0) (t := 0) hT2 rfl eC_ok (by decide) (by decide) fun r S3 hT3 r0 r1 => ⟨rfl, .bl (decide (0 < r)), rfl, _, rfl, siNx ?_⟩)
  obtain ⟨e, S4, g1, rows, x6, x8, x9, y11, y12, y13, y14, y15, y16, rfl, hT4, g2, g3⟩ := beats_ok (long := long) (ll := decide (0 < r)) c1 hs hT3 (by simp) (by simp)
  refine ⟨_, S4, g1, siPut (ei_some (t := 0) (n := count) (m := 15) hT4 (by omega) eV_ok rfl (fun k => ⟨_, rfl, rfl, fun _ => rfl, rfl⟩) (by decide) (by decide) fun l' S5 hs5 hT5 => ⟨_, rfl, siRet ?_⟩)⟩
  refine eiT (elC (ei2r fxC (ei_draw (n := 0) (t := 0) hT5 rfl eC_ok (by decide) (by decide) fun r2 S6 hT6 r20 r21 => ⟨rfl, .int (1 + r2), rfl, elC (eiP (v := .tup (rows.map eRow)) ?_ (elC (eiP eV_ok (elN ⟨by simp, 1 + r2, rows, l'.map fun k : Nat => 0 + (k : Int), ?_, ⟨_, hT6⟩, good_of (by omega) (by omega) g2 c0 c1 (fun q hq => ⟨by rw [(g3 q hq).1]; omega, by rw [(g3 q hq).1]; omega, (g3 q hq).2⟩) hs5, g2⟩))))⟩)))
  · have q := elc1 (it := iP (pN 4)) (vs := [17]) (g := tgN 17) (e := eP1 pTuple (pN 17)) (env := (mE count long (size : Int) (decide (0 < r)) x6 x8 x9 y11 y12 y13 y14 y15 y16).set 7 (.v (.tup (l'.map eK)))) (env0 := (mE count long (size : Int) (decide (0 < r)) x6 x8 x9 y11 y12 y13 y14 y15 y16).set 7 (.v (.tup (l'.map eK)))) (S := S6) (List.range count) (fun i => .ptr (2 + i)) (fun i => eRow (rows[i]!)) (iP_l rfl) rfl (by simp; omega) fun i hi =>
      ⟨((mE count long (size : Int) (decide (0 < r)) x6 x8 x9 y11 y12 y13 y14 y15 y16).set 7 (.v (.tup (l'.map eK)))).set 17 (.v (.ptr (2 + i))), rfl, by
        have hi : i < rows.length := by rw [g2]; exact List.mem_range.mp hi
        refine p1_ok (u := .lst (rows[i].map eS)) (pC_ok (n := 2 + i) rfl (cell_at hT6 hi)) ?_
        rw [getElem!_pos rows i hi]
        rfl⟩
    have pr := ptr_rows hT6
    rw [g2] at pr
    rw [pr] at q
    exact p1_ok (pA_ok q rfl) rfl
  · rw [eK_int]
    rfl
/-! ### what nobody sees any more -/
theorem pl_map {α : Type} (enc : α → PV) (n : Nat) (h : ∀ a, (enc a).pl n = true) : ∀ l : List α, PV.plL (l.map enc) n = true
  | [] => rfl
  | a :: l => by
    show (PV.pl (enc a) n && PV.plL (l.map enc) n) = true
    rw [h, pl_map enc n h l]; rfl
theorem pl_cr (reach : Int) (rows : List (List St3)) (bar : List Int) (n : Nat) : (eCr reach rows bar).pl n = true := by
  have e1 : PV.plL (rows.map eRow) n = true := pl_map eRow n (fun r => pl_map eS n (fun s => rfl) r) rows
  have e2 : PV.plL (bar.map .int) n = true := pl_map PV.int n (fun s => rfl) bar
  show (PV.pl (.int reach) n && (PV.plL (rows.map eRow) n && (PV.plL (bar.map .int) n && true))) = true
  rw [e1, e2]; rfl
theorem run_cut {n : Nat} {d : Sm} {args : List PV} {S S' rest : Sto} {reach : Int} {rows : List (List St3)} {bar : List Int} (hS : TownR [] S) (h : d (args.map .v ++ List.replicate (n - args.length) .un) S = .rt (eCr reach rows bar) S') (hT : TownR rest S') : ∃ S2, runFn n d args S = .ok (eCr reach rows bar) S2 ∧ TownR [] S2 := by
  have hl : S.length = 2 := by obtain ⟨_, _, _, rfl⟩ := hS; rfl
  obtain ⟨N, c, hN, rfl⟩ := hT
  refine ⟨[.lst (N.map .int), .lst [.ptr 0, .int c]], ?_, N, c, hN, rfl⟩
  unfold runFn
  rw [h, hl]
  have e : PV.plL [.lst (N.map .int), .lst [.ptr 0, .int c]] 2 = true := by
    show (PV.plL (N.map .int) 2 && (PV.plL [.ptr 0, .int c] 2 && true)) = true
    rw [pl_map PV.int 2 (fun s => rfl) N]; rfl
  simp only [truncR]
  have e2 : List.take 2 (PV.lst (N.map .int) :: .lst [.ptr 0, .int c] :: rest) = [.lst (N.map .int), .lst [.ptr 0, .int c]] := rfl
  rw [e2, pl_cr, e]
  rfl
theorem ev_meet {S : Sto} (h : TownR [] S) {count : Nat} (c0 : 2 ≤ count) (c1 : count ≤ 6) {long : Int} (l0 : 1 ≤ long) (l1 : long ≤ 4) : ∃ reach rows bar S', f_law_meetings [.ptr 1, .int (count : Int), .int long] S = .ok (eCr reach rows bar) S' ∧ TownR [] S' ∧ Good reach rows bar ∧ rows.length = count := by
  obtain ⟨v, S1, e, reach, rows, bar, rfl, ⟨rest, hT⟩, hg, hc⟩ := meet_ok h c0 c1 l0 l1
  obtain ⟨S2, e2, hT2⟩ := run_cut (n := 18) (d := d_law_meetings) (args := [.ptr 1, .int (count : Int), .int long]) h e hT
  exact ⟨reach, rows, bar, S2, e2, hT2, hg, hc⟩
theorem ev_crowd {S : Sto} (h : TownR [] S) {count : Nat} (c0 : 2 ≤ count) (c1 : count ≤ 6) {long : Int} (l0 : 1 ≤ long) (l1 : long ≤ 4) : ∃ reach rows bar S', f_law_crowd [.ptr 1, .int (count : Int), .int long] S = .ok (eCr reach rows bar) S' ∧ TownR [] S' ∧ Good reach rows bar ∧ rows.length = count := by
  have : RtI d_law_crowd [.v (.ptr 1), .v (.int (count : Int)), .v (.int long), .un, .un, .un, .un, .un, .un, .un] S fun v S' => ∃ reach rows bar, v = eCr reach rows bar ∧ TownR [] S' ∧ Good reach rows bar ∧ rows.length = count := by
    refine siIfR (ei2l fxC (ei_draw (n := 0) (t := 0) h rfl eC_ok (by decide) (by decide) fun r S1 hT1 r0 r1 => ⟨rfl, .bl (decide (0 < r)), rfl, _, rfl, ?_⟩))
    by_cases hr : 0 < r
    · rw [if_pos (by simpa using hr)]
      obtain ⟨reach, rows, bar, S2, e, h2⟩ := ev_meet hT1 c0 c1 l0 l1
      exact siRet (eiCall (elC (eiP eV_ok (elC (eiP eV_ok (elC (eiP eV_ok (elN ⟨_, S2, e, reach, rows, bar, rfl, h2⟩))))))))
    · rw [if_neg (by simpa using hr)]
      exact siNil (crowd2 hT1 c0 c1 l0 (by omega))
  obtain ⟨v, S1, e, reach, rows, bar, rfl, hT, hg, hc⟩ := this
  exact ⟨reach, rows, bar, S1, run_rt (n := 10) (d := d_law_crowd) (args := [.ptr 1, .int (count : Int), .int long]) e (TownR.len h hT), hT, hg, hc⟩
end M01

set_option maxRecDepth 100000
set_option maxHeartbeats 1000000
namespace M01
open PySem Hw G01
section
variable {env : En} {S : Sto} {v : PV} {f : Fn} {ds dk : Exs} {us vs : List PV}
theorem callK (h : ds env S = .ok us S) (h1 : dk env S = .ok vs S) (h2 : f (us ++ vs) S = .ok v S) : eCallK f ds dk env S = .ok v S := by simp [eCallK, h, h1, R.bind, h2]
theorem callD {dps : List PV} (h : ds env S = .ok us S) (h2 : f (us ++ dps) S = .ok v S) : eCallD f dps ds env S = .ok v S := by simp [eCallD, h, R.bind, h2]
end
theorem ne_eS (s : St3) : pNeK (eS s) (eS s) = some (.bl false) := by simp [eS, pNeK, pNe, PV.sh, PV.shL, PV.eq, PV.eqL]
theorem eq_eS (s : St3) : pEq (eS s) (eS s) = some (.bl true) := by simp [eS, pEq, PV.sh, PV.shL, PV.eq, PV.eqL]
theorem eqL_eK : ∀ l : List Nat, PV.eqL (l.map eK) (l.map eK) = true
  | [] => rfl
  | a :: l => by
    show (PV.eq (eK a) (eK a) && PV.eqL (l.map eK) (l.map eK)) = true
    rw [eqL_eK l]
    simp [eK, PV.eq]
theorem ne_eKt (l : List Nat) : pNeK (.tup (l.map eK)) (.tup (l.map eK)) = some (.bl false) := by
  have h : (PV.tup (l.map eK)).sh 16 = true := sh_eK l 15
  have e : (PV.tup (l.map eK)).eq (.tup (l.map eK)) = true := eqL_eK l
  simp [pNeK, pNe, h, e]
theorem ne_bl (a : Bool) : pNeK (.bl a) (.bl a) = some (.bl false) := by cases a <;> rfl
theorem ev_law_is (S : Sto) (a : Bool) : f_law_is [.bl a, .bl a] S = .ok (.bl true) S := by
  refine run_rt (retS (andT (p1_ok pN_ok rfl) (p2_ok pN_ok pN_ok ?_))) rfl
  cases a <;> rfl
section
variable {reach : Int} {rows : List (List St3)} {bar : List Int}
theorem stood_per (h : Good reach rows bar) {one : Int} (beat : Int) (h0 : 0 ≤ one) (h1 : one < rows.length) : stoodP rows one (beat % (lcmL rows 1 : Int)) [] = stoodP rows one beat [] := by
  unfold stoodP
  simp only [List.find?_nil]
  have hd := (dvd_lcmL rows 1).2 _ (get_mem h0 h1)
  rw [Int.emod_emod_of_dvd beat (Int.natCast_dvd_natCast.mpr hd)]
theorem ears_per (h : Good reach rows bar) {one : Int} (beat : Int) (h0 : 0 ≤ one) (h1 : one < rows.length) : earsN reach rows one (beat % (lcmL rows 1 : Int)) [] = earsN reach rows one beat [] := by
  unfold earsN
  refine List.filter_congr fun k hk => ?_
  have hk := List.mem_range.mp hk
  unfold hearP
  rw [stood_per h beat (one := 0 + (k : Int)) (by omega) (by omega), stood_per h beat h0 h1]
theorem may_per (h : Good reach rows bar) {one : Int} (beat : Int) (h0 : 0 ≤ one) (h1 : one < rows.length) : mayP reach rows bar one (beat % (lcmL rows 1 : Int)) [] = mayP reach rows bar one beat [] := by
  unfold mayP
  rw [ears_per h beat h0 h1]
abbrev lE (ns : List Int) (count : Nat) (cr : PV) (size : Int) (lt : PV) (x6 x7 x8 x9 x10 x11 : SV) : En := [.v (.kls ns), .v (.ptr 1), .v (.int (count : Int)), .v cr, .v (.int size), .v lt, x6, x7, x8, x9, x10, x11]
abbrev lawBody : Sm := (sSeq (sIf (eP2 pNeK (pA (eCallK f_stand (esCons (eVar 3) (esCons (eVar 8) (esCons (eVar 7) (esNil)))) (esCons (eVar 5) (esNil)))) (pA (eCall f_law_stand (esCons (eVar 3) (esCons (eVar 8) (esCons (eVar 7) (esCons (eVar 5) (esNil)))))))) (sSeq (sRet (eC (.bl false))) (sNil)) (sNil)) (sSeq (sPut (tgN 9) (eCall f_law_ears (esCons (eVar 3) (esCons (eVar 8) (esCons (eVar 7) (esCons (eVar 5) (esNil))))))) (sSeq (sIf (eP2 pNeK (pA (eCallK f_hearers (esCons (eVar 3) (esCons (eVar 8) (esCons (eVar 7) (esNil)))) (esCons (eVar 5) (esNil)))) (pA (eP1 pTuple (pN 9)))) (sSeq (sRet (eC (.bl false))) (sNil)) (sNil)) (sSeq (sPut (tgN 10) (eP2 pIsNot (pA (eCall f_law_let (esCons (eVar 3) (esCons (eVar 8) (esCons (eVar 7) (esCons (eVar 5) (esNil))))))) (pA (eC .non)))) (sSeq (sIf (eNot (eCall f_law_is (esCons (eCallK f_is_let (esCons (eVar 3) (esCons (eVar 8) (esCons (eVar 7) (esNil)))) (esCons (eVar 5) (esNil))) (esCons (eVar 10) (esNil))))) (sSeq (sRet (eC (.bl false))) (sNil)) (sNil)) (sSeq (sPut (tgN 11) (eCallD f_hearers [(.tup [])] (esCons (eVar 3) (esCons (eVar 8) (esCons (eP2 pMod (pN 7) (pN 4)) (esNil)))))) (sSeq (sIf (eOr (eP2 pNeK (pN 11) (pA (eP1 pTuple (pA (eCall f_law_ears (esCons (eVar 3) (esCons (eVar 8) (esCons (eVar 7) (esCons (eTup (esNil)) (esNil)))))))))) (eP2 pNeK (pA (eCallD f_hearers [(.tup [])] (esCons (eVar 3) (esCons (eVar 8) (esCons (eVar 7) (esNil)))))) (pN 11))) (sSeq (sRet (eC (.bl false))) (sNil)) (sNil)) (sSeq (sIf (eP2 pNeK (pA (eCallD f_is_let [(.tup [])] (esCons (eVar 3) (esCons (eVar 8) (esCons (eVar 7) (esNil)))))) (pA (eCallD f_is_let [(.tup [])] (esCons (eVar 3) (esCons (eVar 8) (esCons (eP2 pMod (pN 7) (pN 4)) (esNil))))))) (sSeq (sRet (eC (.bl false))) (sNil)) (sNil)) (sNil)))))))))
theorem body_ok (S : Sto) (ns : List Int) (h : Good reach rows bar) {late : List St3} (hl : GoodL rows.length late) {beat : Int} (b0 : 0 ≤ beat) (b1 : beat ≤ 1000000000000) {k : Nat} (hk : k < rows.length) (count : Nat) (x6 x9 x10 x11 : SV) (n9 : nlk x9) (n10 : nlk x10) (n11 : nlk x11) :
    ∃ y9 y10 y11 : SV, nlk y9 ∧ nlk y10 ∧ nlk y11 ∧ lawBody (lE ns count (eCr reach rows bar) (lcmL rows 1 : Int) (eLate late) x6 (.v (.int beat)) (.v (eK k)) x9 x10 x11) S = .nx (lE ns count (eCr reach rows bar) (lcmL rows 1 : Int) (eLate late) x6 (.v (.int beat)) (.v (eK k)) y9 y10 y11) S := by
  have k0 : (0 : Int) ≤ 0 + (k : Int) := by omega
  have k1 : 0 + (k : Int) < rows.length := by omega
  have hr : ∀ r ∈ rows, 1 ≤ r.length ∧ r.length ≤ 6 := fun r hr => ⟨h.l0 r hr, h.l1 r hr⟩
  obtain ⟨p0, p1⟩ := pos_60 (lcmL_60 rows 1 hr (by decide))
  obtain ⟨q0, q1⟩ := emod_in (a := beat) (n := lcmL rows 1) p0
  have lp : (0 : Int) < (lcmL rows 1 : Int) := by omega
  have ln := goodL_nil rows.length
  have e3 := ev_hearers S h ln k0 k1 q0 (by omega : beat % (lcmL rows 1 : Int) ≤ 1000000000000)
  rw [ears_per h beat k0 k1] at e3
  have e4 := ev_is_let S h ln k0 k1 q0 (by omega : beat % (lcmL rows 1 : Int) ≤ 1000000000000)
  rw [may_per h beat k0 k1] at e4
  generalize lcmL rows 1 = size at *
  refine ⟨.v (.lst ((earsN reach rows (0 + (k : Int)) beat late).map eK)), .v (.bl (mayP reach rows bar (0 + (k : Int)) beat late)), .v (.tup ((earsN reach rows (0 + (k : Int)) beat []).map eK)), nlk_v _, nlk_v _, nlk_v _, ?_⟩
  have e1 := ev_law_let S h late beat k0 k1
  have hmay : ∀ b : Bool, ∀ xs : List PV, plOf (if b then PV.lst xs else .non) = .val (if b then PV.lst xs else .non) ∧ pIsNot (if b then PV.lst xs else .non) .non = some (.bl b) := fun b xs => by cases b <;> exact ⟨rfl, rfl⟩
  refine ifF (p2_ok (pA_ok (callK (aC eV_ok (aC eV_ok (aC eV_ok aN))) (aC eV_ok aN) (ev_stand S h hl k0 k1 b0 b1)) rfl) (pA_ok (callS (aC eV_ok (aC eV_ok (aC eV_ok (aC eV_ok aN)))) (ev_stood S h late beat k0 k1)) rfl) (ne_eS _)) ?_
  refine putS (callS (aC eV_ok (aC eV_ok (aC eV_ok (aC eV_ok aN)))) (ev_law_ears S h late beat k0 k1)) (put_nlk rfl n9) ?_
  refine ifF (p2_ok (pA_ok (callK (aC eV_ok (aC eV_ok (aC eV_ok aN))) (aC eV_ok aN) (ev_hearers S h hl k0 k1 b0 b1)) rfl) (pA_ok (p1_ok pN_ok rfl) rfl) (ne_eKt _)) ?_
  refine putS (p2_ok (pA_ok (callS (aC eV_ok (aC eV_ok (aC eV_ok (aC eV_ok aN)))) e1) (hmay _ _).1) (pA_ok eC_ok) (hmay _ _).2) (put_nlk rfl n10) ?_
  refine ifF (notT (callS (aC (callK (aC eV_ok (aC eV_ok (aC eV_ok aN))) (aC eV_ok aN) (ev_is_let S h hl k0 k1 b0 b1)) (aC eV_ok aN)) (ev_law_is S _))) ?_
  refine putS (callD (aC eV_ok (aC eV_ok (aC (p2_ok pN_ok pN_ok (pmod_ok lp)) aN))) e3) (put_nlk rfl n11) ?_
  refine ifF (orF (p2_ok pN_ok (pA_ok (p1_ok (pA_ok (callS (aC eV_ok (aC eV_ok (aC eV_ok (aC (tupS aN) aN)))) (ev_law_ears S h [] beat k0 k1)) rfl) rfl) rfl) (ne_eKt _)) (p2_ok (pA_ok (callD (aC eV_ok (aC eV_ok (aC eV_ok aN))) (ev_hearers S h ln k0 k1 b0 b1)) rfl) pN_ok (ne_eKt _))) ?_
  exact ifF (p2_ok (pA_ok (callD (aC eV_ok (aC eV_ok (aC eV_ok aN))) (ev_is_let S h ln k0 k1 b0 b1)) rfl) (pA_ok (callD (aC eV_ok (aC eV_ok (aC (p2_ok pN_ok pN_ok (pmod_ok lp)) aN))) e4) rfl) (ne_bl _)) rfl
end
end M01

set_option maxRecDepth 100000
set_option maxHeartbeats 1000000
namespace M01
open PySem Hw G01
theorem late_ok {m n : Nat} {l' l2 : List Nat} {ys : List St3} (hs : l'.Sublist (List.range m)) (hm : m ≤ 4) (hmn : m ≤ n) (hs2 : l2.Sublist l') (ha : All2 (fun (a : Nat) (b : St3) => b.1 = 0 + (a : Int) ∧ 0 ≤ b.2.1 ∧ b.2.1 < 9 ∧ 1 ≤ b.2.2 ∧ b.2.2 ≤ 6) l2 ys) : GoodL n ys := by
  have hs3 := hs2.trans hs
  obtain ⟨a, b, c⟩ := some_ints hs3
  have e : ys.map (·.1) = l2.map fun k : Nat => 0 + (k : Int) := by
    clear hs hs2 hs3 a b c
    induction ha with
    | nil => rfl
    | cons p q ih => simp only [List.map_cons, ih, p.1]
  refine ⟨?_, fun t ht => ?_, ?_⟩
  · have := ha.len
    rw [List.length_map] at c
    omega
  · have h1 : t.1 ∈ l2.map fun k : Nat => 0 + (k : Int) := by rw [← e]; exact List.mem_map.mpr ⟨t, ht, rfl⟩
    obtain ⟨x, y⟩ := a _ h1
    have := All2.all (R := fun b : St3 => 0 ≤ b.2.1 ∧ b.2.1 < 9 ∧ 1 ≤ b.2.2 ∧ b.2.2 ≤ 6) (fun _ _ h => h.2) ha t ht
    exact ⟨x, by omega, by omega, by omega, by omega, by omega⟩
  · rw [← e, List.pairwise_map] at b
    exact b
theorem main_k01 (ns : List Int) (hn : ns.length ≤ 63) : ∃ S', f_law [.kls ns] [] = R.ok (.bl true) S' := by
  have : RtI d_law [.v (.kls ns), .un, .un, .un, .un, .un, .un, .un, .un, .un, .un, .un] [] fun v S' => v = .bl true := by
    obtain ⟨S1, e1, hT1⟩ := ev_town ns
    refine siPut (eiCall (elC (eiP eV_ok (elN ⟨_, S1, e1, _, rfl, ?_⟩))))
    refine siPut (ei_nat (b := 2) (t := 1) hT1 rfl eC_ok (by decide) (by decide) fun count S2 hT2 c0 c1 => ⟨_, rfl, ?_⟩)
    have c1 : count ≤ 6 := by omega
    obtain ⟨reach, rows, bar, S3, e3, hT3, hg, hc⟩ := ev_crowd hT2 c0 c1 (long := 4) (by decide) (by decide)
    refine siPut (eiCall (elC (eiP eV_ok (elC (eiP eV_ok (elC (eiP eC_ok (elN ⟨_, S3, e3, _, rfl, ?_⟩))))))))
    have hr : ∀ r ∈ rows, 1 ≤ r.length ∧ r.length ≤ 6 := fun r hr => ⟨hg.l0 r hr, hg.l1 r hr⟩
    obtain ⟨p0, p1⟩ := pos_60 (lcmL_60 rows 1 hr (by decide))
    refine siPut (eiP (callS (aC (lstS (aC eV_ok aN)) aN) (ev_law_size S3 hg)) ⟨_, rfl, ?_⟩)
    refine siIfR (eiP (v := .bl false) (orF (p2_ok (pA_ok (callS (aC eV_ok aN) (ev_is_crowd S3 hg))) (pA_ok eC_ok) rfl) ((p2_ok (pA_ok (callS (aC eV_ok aN) (ev_joint_round S3 hg))) pN_ok pNeI).trans (by simp))) ⟨false, rfl, (if_neg Bool.false_ne_true).mpr (siNil ?_)⟩)
    -- late folk
    have hmin : ∃ m : Nat, eP2 pMin2 (pN 2) (pA (eC (.int 4))) [.v (.kls ns), .v (.ptr 1), .v (.int (count : Int)), .v (eCr reach rows bar), .v (.int (lcmL rows 1 : Int)), .un, .un, .un, .un, .un, .un, .un] S3 = .ok (.int (m : Int)) S3 ∧ m ≤ 4 ∧ m ≤ count := by
      by_cases h : (4 : Int) < (count : Int)
      · exact ⟨4, p2_ok pN_ok (pA_ok eC_ok) (by simp only [pMin2]; rw [if_pos h]; rfl), by omega, by omega⟩
      · exact ⟨count, p2_ok pN_ok (pA_ok eC_ok) (by simp only [pMin2]; rw [if_neg h]), by omega, by omega⟩
    obtain ⟨m, em, m1, m2⟩ := hmin
    obtain ⟨l', S4, e4, hs4, hT4⟩ := some_ok hT3 (n := m) (m := 3) (by omega) (by decide) (by decide)
    refine siPut (ei1 ?_)
    obtain ⟨v, S5, e5, l2, ys, hs5, ha5, rfl, hT5⟩ := eiLC (it := iP (pA (eCall f_law_some (esCons (eVar 1) (esCons (eP2 pMin2 (pN 2) (pA (eC (.int 4)))) (esCons (eC (.int 3)) (esNil))))))) (vs := [8]) (g := tgN 8) (c := eYes) (e := eTup (esCons (eVar 8) (esCons (eCall f_law_draw (esCons (eVar 1) (esCons (eC (.int 9)) (esNil)))) (esCons (eP2 pAdd (pA (eC (.int 1))) (pA (eCall f_law_draw (esCons (eVar 1) (esCons (eC (.int 6)) (esNil)))))) (esNil)))))
      (env := [.v (.kls ns), .v (.ptr 1), .v (.int (count : Int)), .v (eCr reach rows bar), .v (.int (lcmL rows 1 : Int)), .un, .un, .un, .un, .un, .un, .un]) (S := S3) (S' := S4) (env0 := [.v (.kls ns), .v (.ptr 1), .v (.int (count : Int)), .v (eCr reach rows bar), .v (.int (lcmL rows 1 : Int)), .un, .un, .un, .un, .un, .un, .un]) l' eK eS (TownR [])
      (fun (a : Nat) (b : St3) => b.1 = 0 + (a : Int) ∧ 0 ≤ b.2.1 ∧ b.2.1 < 9 ∧ 1 ≤ b.2.2 ∧ b.2.2 ≤ 6) (by
        have : eCall f_law_some (esCons (eVar 1) (esCons (eP2 pMin2 (pN 2) (pA (eC (.int 4)))) (esCons (eC (.int 3)) (esNil)))) [.v (.kls ns), .v (.ptr 1), .v (.int (count : Int)), .v (eCr reach rows bar), .v (.int (lcmL rows 1 : Int)), .un, .un, .un, .un, .un, .un, .un] S3 = .ok (.tup (l'.map eK)) S4 := ei_draw.callS2 (aC eV_ok (aC em (aC eC_ok aN))) e4
        simp only [iP, pA, this, R.bind, plOf, itemsOf, R.opt]) rfl (by
          have := hs4.length_le
          rw [List.length_range] at this
          omega) hT4 (fun k _ S hS => ⟨[.v (.kls ns), .v (.ptr 1), .v (.int (count : Int)), .v (eCr reach rows bar), .v (.int (lcmL rows 1 : Int)), .un, .un, .un, .v (eK k), .un, .un, .un], rfl, eiP rfl ⟨true, rfl, hS, fun _ => eiT (elC (eiP eV_ok (elC (ei_draw (n := 0) (t := 1) hS rfl eC_ok (by decide) (by decide) fun r S6 hT6 r0 r1 => elC (ei2r fxC (ei_draw (n := 0) (t := 1) hT6 rfl eC_ok (by decide) (by decide) fun r2 S7 hT7 r20 r21 => ⟨rfl, .int (1 + r2), rfl, elN ⟨by simp, (0 + (k : Int), r, 1 + r2), rfl, ⟨rfl, r0, r1, by show 1 ≤ 1 + r2; omega, by show 1 + r2 ≤ 6; omega⟩, hT7⟩⟩))))))⟩⟩)
    refine ⟨_, S5, e5, rfl, _, rfl, _, rfl, ?_⟩
    have hl : GoodL rows.length ys := late_ok hs4 m1 (by omega) hs5 ha5
    refine siNx ?_
    have lp := siFor (it := iR1 (eC (.int 4))) (g := tgN 6) (body := sSeq (sPut (tgN 7) (eCall f_law_pick (esCons (eVar 1) (esCons (eLst (esCons (eCall f_law_draw (esCons (eVar 1) (esCons (eC (.int 12)) (esNil)))) (esCons (eP2 pSub (pA (eC (.int 1000000000000))) (pA (eCall f_law_draw (esCons (eVar 1) (esCons (eC (.int 9)) (esNil)))))) (esCons (eCall f_law_draw (esCons (eVar 1) (esCons (eC (.int 100000)) (esNil)))) (esNil))))) (esNil))))) (sSeq (sFor (iR1 (eVar 2)) (tgN 8) lawBody) (sNil)))
      (env := lE ns count (eCr reach rows bar) (lcmL rows 1 : Int) (eLate ys) .un .un .un .un .un .un) (S := S5) (List.range 4) eK (fun _ env S' => TownR [] S' ∧ ∃ x6 x7 x8 x9 x10 x11 : SV, env = lE ns count (eCr reach rows bar) (lcmL rows 1 : Int) (eLate ys) x6 x7 x8 x9 x10 x11 ∧ nlk x6 ∧ nlk x7 ∧ nlk x8 ∧ nlk x9 ∧ nlk x10 ∧ nlk x11) (r1_imp (j := 4) eC_ok (by decide)) ⟨hT5, _, _, _, _, _, _, rfl, nlk_un, nlk_un, nlk_un, nlk_un, nlk_un, nlk_un⟩ ?_
    · obtain ⟨env, S6, e6, hT6, x6, x7, x8, x9, x10, x11, rfl, _⟩ := lp
      refine ⟨_, S6, e6, siRet (eiP (p2_ok (pA_ok (callD (aC eV_ok (aC eC_ok (aC eV_ok aN))) (ev_stand S6 hg (goodL_nil _) (one := 0) (by decide) (by omega) (by omega) (by omega))) rfl) (pA_ok (p2_ok (pA_ok (p2_ok (pA_ok (p2_ok pN_ok (pA_ok eC_ok) rfl)) (pA_ok eC_ok) (idx_t rows eRow (i := 0) (by decide) (by omega))) rfl) (pA_ok eC_ok) (idx_t _ eS (i := 0) (by decide) (by
        have := hg.l0 _ (get_mem (l := rows) (i := 0) (by decide) (by omega))
        omega))) rfl) ?_) rfl)⟩
      have : stoodP rows 0 (lcmL rows 1 : Int) [] = rows[(0 : Int).toNat]![(0 : Int).toNat]! := by
        unfold stoodP
        simp only [List.find?_nil]
        have hd := (dvd_lcmL rows 1).2 _ (get_mem (l := rows) (i := 0) (by decide) (by omega))
        rw [Int.emod_eq_zero_of_dvd (Int.natCast_dvd_natCast.mpr hd)]
      rw [this]
      exact eq_eS _
    · rintro done a rest hd env S6 ⟨hT6, x6, x7, x8, x9, x10, x11, rfl, n6, n7, n8, n9, n10, n11⟩
      refine ⟨lE ns count (eCr reach rows bar) (lcmL rows 1 : Int) (eLate ys) (.v (eK a)) x7 x8 x9 x10 x11, put_nlk rfl n6, siPutN ?_⟩
      refine eiCall (elC (eiP eV_ok (elC (eiL (elC (ei_draw (n := 0) (t := 1) hT6 rfl eC_ok (by decide) (by decide) fun r1 S7 hT7 a0 a1 => elC (ei2r fxC (ei_draw (n := 0) (t := 1) hT7 rfl eC_ok (by decide) (by decide) fun r2 S8 hT8 b0 b1 => ⟨rfl, .int (1000000000000 - r2), rfl, elC (ei_draw (n := 0) (t := 1) hT8 rfl eC_ok (by decide) (by decide) fun r3 S9 hT9 d0 d1 => elN ⟨by simp, elN ?_⟩)⟩))))))))
      obtain ⟨x, S10, e10, hx, hT10⟩ := pick_ok hT9 [.int r1, .int (1000000000000 - r2), .int r3] (by simp) (by simp) (by simp [plOf])
      obtain ⟨beat, rfl, q0, q1⟩ : ∃ beat : Int, x = .int beat ∧ 0 ≤ beat ∧ beat ≤ 1000000000000 := by
        simp at hx
        rcases hx with rfl | rfl | rfl
        · exact ⟨_, rfl, a0, by omega⟩
        · exact ⟨_, rfl, by omega, by omega⟩
        · exact ⟨_, rfl, d0, by omega⟩
      refine ⟨_, S10, e10, lE ns count (eCr reach rows bar) (lcmL rows 1 : Int) (eLate ys) (.v (eK a)) (.v (.int beat)) x8 x9 x10 x11, put_nlk rfl n7, siNxN ?_⟩
      have lp2 := siFor (it := iR1 (eVar 2)) (g := tgN 8) (body := lawBody) (env := lE ns count (eCr reach rows bar) (lcmL rows 1 : Int) (eLate ys) (.v (eK a)) (.v (.int beat)) x8 x9 x10 x11) (S := S10) (List.range count) eK (fun _ env S' => S' = S10 ∧ ∃ x8 x9 x10 x11 : SV, env = lE ns count (eCr reach rows bar) (lcmL rows 1 : Int) (eLate ys) (.v (eK a)) (.v (.int beat)) x8 x9 x10 x11 ∧ nlk x8 ∧ nlk x9 ∧ nlk x10 ∧ nlk x11) (r1_imp eV_ok (by omega)) ⟨rfl, _, _, _, _, rfl, n8, n9, n10, n11⟩ ?_
      · obtain ⟨env, S11, e11, rfl, y8, y9, y10, y11, rfl, m8, m9, m10, m11⟩ := lp2
        exact ⟨_, S11, e11, siNil ⟨hT10, _, _, y8, y9, y10, y11, rfl, nlk_v _, nlk_v _, m8, m9, m10, m11⟩⟩
      · rintro done2 k rest2 hd2 env S11 ⟨rfl, y8, y9, y10, y11, rfl, m8, m9, m10, m11⟩
        have hk : k < rows.length := by
          have : k ∈ List.range count := by rw [hd2]; simp
          rw [hc]
          exact List.mem_range.mp this
        obtain ⟨z9, z10, z11, w9, w10, w11, e12⟩ := body_ok S11 ns hg hl q0 q1 hk count (.v (eK a)) y9 y10 y11 m9 m10 m11
        exact ⟨lE ns count (eCr reach rows bar) (lcmL rows 1 : Int) (eLate ys) (.v (eK a)) (.v (.int beat)) (.v (eK k)) y9 y10 y11, put_nlk rfl m8, _, S11, e12, rfl, _, z9, z10, z11, rfl, nlk_v _, w9, w10, w11⟩
  obtain ⟨v, S', e, rfl⟩ := this
  have e2 : f_law [.kls ns] [] = truncR 0 (.ok (.bl true) S') := by
    unfold f_law runFn
    rw [show d_law (List.map SV.v [.kls ns] ++ List.replicate (12 - [PV.kls ns].length) SV.un) [] = .rt (.bl true) S' from e]
    rfl
  rw [e2]
  simp only [truncR]
  split
  · exact ⟨_, rfl⟩
  · exact ⟨_, rfl⟩
end M01

theorem PySem.Challenge.cw_hushways_k01_whole_hearing_holds : PySem.Challenge.rw_hushways_k01_whole_hearing.Holds := by
  exact G01.holds_of M01.main_k01
