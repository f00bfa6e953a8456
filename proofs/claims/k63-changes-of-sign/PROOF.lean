import PyProof.Rows.All
import HandS.CallLocal
import HandS.ClsMeth
import HandS.Deep
import HandS.Defaults
import HandS.EndBits
import HandS.EndTab
import HandS.ExcField
import HandS.ExcInit
import HandS.Flow
import HandS.ForExc
import HandS.ForMost
import HandS.Gcd
import HandS.Head0
import HandS.Head1
import HandS.Head2
import HandS.Head3
import HandS.HeadEnd
import HandS.HeadHook1
import HandS.HeadHook2
import HandS.HeadHook3
import HandS.HeadHook4
import HandS.HeadWalk
import HandS.IsInst
import HandS.Lambda
import HandS.More
import HandS.RaiseMore
import HandS.SortInts
import HandS.Style
import HandS.TryMany
import HandS.TupAny
import HandS.TupMul
import HandS.Walk
import HandS.Wide
import HandS.WideBits
import HandS.WideMore
import HandS.Zip
import KE.GoesMore
import KE.KStateDown
import PyProof.ReprRoads
import PySem.Challenge.RW_everyminor_k63_changes_of_sign
set_option Elab.async false
set_option linter.all false
set_option maxRecDepth 100000
set_option maxHeartbeats 4000000
/-! Plain data over the hand layer: what a body computes, as a function of plain values. -/
namespace Dl
open PySem PySem.Spec PyProof.Rows L2

/-! ### plain values, results -/
inductive D where
  | non | bl (b : Bool) | int (i : Int) | str (x : Str) | tup (xs : List D) | lst (xs : List D) | ref (a : Addr) | pen | ty (n : String) | dct (kvs : List (Int × D))
  deriving Inhabited
structure PenS where
  cells : List Int
  at_ : Int
  digits : Int
  count : Int
  fold : Int
inductive Rz (α : Type) where
  | ok (a : α) (p : PenS)
  | exc (c : Str) (fs : List (Str × D)) (p : PenS)
  | bad
abbrev M (α : Type) := PenS → Rz α
def ret {α : Type} (a : α) : M α := fun p => .ok a p
def Rz.bd {α β : Type} (r : Rz α) (f : α → M β) : Rz β := match r with
  | .ok a q => f a q
  | .exc c fs q => .exc c fs q
  | .bad => .bad
def bnd {α β : Type} (m : M α) (f : α → M β) : M β := fun p => (m p).bd f
@[simp] theorem bd_ok {α β : Type} (a : α) (q : PenS) (f : α → M β) : (Rz.ok a q).bd f = f a q := rfl
@[simp] theorem bd_exc {α β : Type} (c : Str) (fs : List (Str × D)) (q : PenS) (f : α → M β) : (Rz.exc c fs q).bd f = .exc c fs q := rfl
@[simp] theorem bd_bad {α β : Type} (f : α → M β) : (Rz.bad).bd f = .bad := rfl
instance : Monad M where
  pure := ret
  bind := bnd
def lift {α : Type} : Option α → M α
  | some a => fun p => .ok a p
  | none => fun _ => .bad
@[simp] theorem bnd_def {α β : Type} (m : M α) (f : α → M β) (p : PenS) : (m >>= f) p = (m p).bd f := rfl
@[simp] theorem ret_def {α : Type} (a : α) (p : PenS) : (pure a : M α) p = .ok a p := rfl
@[simp] theorem lift_some {α : Type} (a : α) (p : PenS) : lift (some a) p = .ok a p := rfl
@[simp] theorem lift_none {α : Type} (p : PenS) : (lift (none : Option α)) p = .bad := rfl

/-! ### statics, representation -/
/-- the pen's address, its cells' -/
structure Sx where
  p : Addr
  c : Addr
  T : List (Addr × Str)
/-- a tuple that is tracked, or one of the written part -/
def TQ (K : PySem.W.Frag) (F : Hp) (a : Addr) (xs : List V) : Prop := F a = some (.tup xs) ∨
  ∃ (o : Obj) (its : Array Value) (n : Nat), K.lookup a = some o ∧ o.cls = .type "tuple" ∧ o.data = .seq its n ∧ its.size ≤ sizeLine ∧ Vals xs its.toList
theorem TQ.sq {K : PySem.W.Frag} {F : Hp} {a : Addr} {xs : List V} (h : TQ K F a xs) : SqT K F a xs := h.elim (fun h => .inl (.inl h)) .inr
theorem TQ.up {K : PySem.W.Frag} {F F' : Hp} (e : ∀ a o, F a = some o → F' a = some o) {a : Addr} {xs : List V} (h : TQ K F a xs) : TQ K F' a xs := h.elim (fun h => .inl (e _ _ h)) .inr
mutual
inductive Rep (K : PySem.W.Frag) (S : Sx) (F : Hp) : D → V → Prop
  | non : Rep K S F .non .non
  | bl (b : Bool) : Rep K S F (.bl b) (.bl b)
  | int (i : Int) : Rep K S F (.int i) (.int i)
  | str (x : Str) : Rep K S F (.str x) (.str x)
  | tup {a : Addr} {xs : List D} {vs : List V} : TQ K F a vs → RepL K S F xs vs → Rep K S F (.tup xs) (.ref a)
  | lst {a : Addr} {xs : List D} {vs : List V} : F a = some (.lst vs) → RepL K S F xs vs → Rep K S F (.lst xs) (.ref a)
  | ref (a : Addr) : Rep K S F (.ref a) (.ref a)
  | pen : Rep K S F .pen (.ref S.p)
  | ty (n : String) : Rep K S F (.ty n) (.ty n)
  | dct {a : Addr} {o : Obj} {kvs : List (Int × D)} {ws : List (Key × V)} : F a = some (.frz o (.dK ws)) → ws.map (·.1) = kvs.map (fun p => Sum.inl p.1) → RepL K S F (kvs.map (·.2)) (ws.map (·.2)) → Rep K S F (.dct kvs) (.ref a)
inductive RepL (K : PySem.W.Frag) (S : Sx) (F : Hp) : List D → List V → Prop
  | nil : RepL K S F [] []
  | cons {d : D} {v : V} {ds : List D} {vs : List V} : Rep K S F d v → RepL K S F ds vs → RepL K S F (d :: ds) (v :: vs)
end
section
variable {K : PySem.W.Frag} {S : Sx} {F F' H H' : Hp}
mutual
theorem Rep.up (e : ∀ a o, F a = some o → F' a = some o) : ∀ {d : D} {v : V}, Rep K S F d v → Rep K S F' d v
  | _, _, .non => .non
  | _, _, .bl b => .bl b
  | _, _, .int i => .int i
  | _, _, .str x => .str x
  | _, _, .tup h r => .tup (h.up e) (RepL.up e r)
  | _, _, .lst h r => .lst (e _ _ h) (RepL.up e r)
  | _, _, .ref a => .ref a
  | _, _, .pen => .pen
  | _, _, .ty n => .ty n
  | _, _, .dct h k r => .dct (e _ _ h) k (RepL.up e r)
theorem RepL.up (e : ∀ a o, F a = some o → F' a = some o) : ∀ {ds : List D} {vs : List V}, RepL K S F ds vs → RepL K S F' ds vs
  | _, _, .nil => .nil
  | _, _, .cons r t => .cons (Rep.up e r) (RepL.up e t)
end
theorem RepL.length : ∀ {ds : List D} {vs : List V}, RepL K S F ds vs → vs.length = ds.length
  | _, _, .nil => rfl
  | _, _, .cons _ t => by rw [List.length_cons, List.length_cons, RepL.length t]
theorem RepL.get : ∀ {ds : List D} {vs : List V} {i : Nat} {d : D}, RepL K S F ds vs → ds[i]? = some d → ∃ v, vs[i]? = some v ∧ Rep K S F d v
  | _, _, _, _, .nil, e => by simp at e
  | _, _, 0, _, .cons r _, e => by
    have e' := Option.some.inj e
    subst e'
    exact ⟨_, rfl, r⟩
  | _, _, i + 1, _, .cons _ t, e => by
    obtain ⟨v, h1, h2⟩ := RepL.get (i := i) t (by simpa using e)
    exact ⟨v, by simpa using h1, h2⟩
theorem RepL.getV : ∀ {ds : List D} {vs : List V} {i : Nat} {v : V}, RepL K S F ds vs → vs[i]? = some v → ∃ d, ds[i]? = some d ∧ Rep K S F d v
  | _, _, _, _, .nil, e => by simp at e
  | _, _, 0, _, .cons r _, e => by
    have e' := Option.some.inj e
    subst e'
    exact ⟨_, rfl, r⟩
  | _, _, i + 1, _, .cons _ t, e => by
    obtain ⟨v, h1, h2⟩ := RepL.getV (i := i) t (by simpa using e)
    exact ⟨v, by simpa using h1, h2⟩
theorem RepL.append : ∀ {ds es : List D} {vs ws : List V}, RepL K S F ds vs → RepL K S F es ws → RepL K S F (ds ++ es) (vs ++ ws)
  | _, _, _, _, .nil, s => s
  | _, _, _, _, .cons r t, s => .cons r (RepL.append t s)
theorem RepL.set {d : D} {v : V} (r : Rep K S F d v) : ∀ {ds : List D} {vs : List V} (i : Nat), RepL K S F ds vs → RepL K S F (ds.set i d) (vs.set i v)
  | _, _, _, .nil => .nil
  | _, _, 0, .cons _ t => .cons r t
  | _, _, i + 1, .cons q t => .cons q (RepL.set r i t)
theorem RepL.drop : ∀ {ds : List D} {vs : List V} (n : Nat), RepL K S F ds vs → RepL K S F (ds.drop n) (vs.drop n)
  | _, _, 0, r => r
  | _, _, _ + 1, .nil => .nil
  | _, _, n + 1, .cons _ t => RepL.drop n t
theorem RepL.take : ∀ {ds : List D} {vs : List V} (n : Nat), RepL K S F ds vs → RepL K S F (ds.take n) (vs.take n)
  | _, _, 0, _ => .nil
  | _, _, _ + 1, .nil => .nil
  | _, _, n + 1, .cons r t => .cons r (RepL.take n t)
theorem RepL.reverse : ∀ {ds : List D} {vs : List V}, RepL K S F ds vs → RepL K S F ds.reverse vs.reverse
  | _, _, .nil => .nil
  | _, _, .cons r t => by
    rw [List.reverse_cons, List.reverse_cons]
    exact (RepL.reverse t).append (.cons r .nil)
theorem RepL.ints : ∀ {ns : List Int} {vs : List V}, RepL K S F (ns.map D.int) vs → vs = ns.map V.int
  | [], _, h => by cases h; rfl
  | n :: r, _, h => by
    cases h with
    | cons a t =>
      cases a
      rw [RepL.ints t, List.map_cons]
theorem RepL.one {d : D} {v : V} (r : Rep K S F d v) : RepL K S F [d] [v] := .cons r .nil
theorem RepL.inv1 {d : D} {vs : List V} (h : RepL K S F [d] vs) : ∃ v, vs = [v] ∧ Rep K S F d v := by
  cases h with
  | cons a t => cases t; exact ⟨_, rfl, a⟩
theorem RepL.inv2 {d e : D} {vs : List V} (h : RepL K S F [d, e] vs) : ∃ v w, vs = [v, w] ∧ Rep K S F d v ∧ Rep K S F e w := by
  cases h with
  | cons a t =>
    cases t with
    | cons b t => cases t; exact ⟨_, _, rfl, a, b⟩

/-! ### the pen, the known world, how it goes on -/
def penK (c : Addr) (q : PenS) : List (Key × V) :=
  [(.inr "cells", .ref c), (.inr "at", .int q.at_), (.inr "digits", .int q.digits), (.inr "count", .int q.count), (.inr "fold", .int q.fold)]
structure Wf (S : Sx) (q : PenS) (F H : Hp) : Prop where
  sub : ∀ a o, F a = some o → H a = some o
  fp : F S.p = none
  pen : H S.p = some (.dK (penK S.c q))
  cel : H S.c = some (.lst (q.cells.map V.int))
  tab : LamX.Tabs S.T H
  ft : ∀ a ps, F a ≠ some (.tbl ps)
structure Ev (S : Sx) (F H F' H' : Hp) : Prop where
  f : ∀ a o, F a = some o → F' a = some o
  n : ∀ a, F a = none → H a ≠ none → F' a = none
  h : ∀ a o, H a = some o → a ≠ S.p → (∀ ps, o ≠ .tbl ps) → H' a = some o
  k : ∀ a, H a ≠ none → H' a ≠ none
theorem Ev.refl : Ev S F H F H := ⟨fun _ _ e => e, fun _ e _ => e, fun _ _ e _ _ => e, fun _ e => e⟩
theorem Ev.trans {F1 H1 F2 H2 : Hp} (x : Ev S F H F1 H1) (y : Ev S F1 H1 F2 H2) : Ev S F H F2 H2 :=
  ⟨fun a o e => y.f a o (x.f a o e), fun a e n => y.n a (x.n a e n) (x.k a n), fun a o e n t => y.h a o (x.h a o e n t) n t, fun a n => y.k a (x.k a n)⟩
theorem Wf.cp {q : PenS} (w : Wf S q F H) : S.c ≠ S.p := fun e => by
  have h1 := w.cel
  rw [e, w.pen] at h1
  cases h1
/-- a new object that stays -/
theorem Wf.new {q : PenS} (w : Wf S q F H) {a : Addr} (ha : H a = none) (o : HO) (no : ∀ ps, o ≠ .tbl ps := by nofun) : Ev S F H (upd F a o) (upd H a o) ∧ Wf S q (upd F a o) (upd H a o) := by
  have nF : F a = none := by
    cases e : F a with
    | none => rfl
    | some u => rw [w.sub a u e] at ha; cases ha
  have ne : ∀ b u, H b = some u → b ≠ a := fun b u e => ne_of_none e ha
  refine ⟨⟨fun b u e => ?_, fun b e n => ?_, fun b u e _ _ => ?_, fun b n => ?_⟩, fun b u e => ?_, ?_, ?_, ?_, w.tab.ext fun b u e => by rw [upd_ne (ne b u e)]; exact e, fun b ps z => ?_⟩
  · rw [upd_ne (ne_of_none e nF)]; exact e
  · have : b ≠ a := fun z => n (by rw [z]; exact ha)
    rw [upd_ne this]; exact e
  · rw [upd_ne (ne b u e)]; exact e
  · have : b ≠ a := fun z => n (by rw [z]; exact ha)
    rw [upd_ne this]; exact n
  · by_cases hb : b = a
    · subst hb
      rw [upd_same] at e ⊢
      exact e
    · rw [upd_ne hb] at e ⊢
      exact w.sub b u e
  · rw [upd_ne (ne _ _ w.pen)]; exact w.fp
  · rw [upd_ne (ne _ _ w.pen)]; exact w.pen
  · rw [upd_ne (ne _ _ w.cel)]; exact w.cel
  · by_cases hb : b = a
    · rw [hb, upd_same] at z
      exact no ps (Option.some.inj z)
    · rw [upd_ne hb] at z
      exact w.ft b ps z
/-- a new object that may change -/
theorem Wf.made {q : PenS} (w : Wf S q F H) {a : Addr} (ha : H a = none) (o : HO) : Ev S F H F (upd H a o) ∧ Wf S q F (upd H a o) ∧ F a = none := by
  have nF : F a = none := by
    cases e : F a with
    | none => rfl
    | some u => rw [w.sub a u e] at ha; cases ha
  have ne : ∀ b u, H b = some u → b ≠ a := fun b u e => ne_of_none e ha
  refine ⟨⟨fun b u e => e, fun b e n => e, fun b u e _ _ => ?_, fun b n => ?_⟩, ⟨fun b u e => ?_, w.fp, ?_, ?_, w.tab.ext fun b u e => by rw [upd_ne (ne b u e)]; exact e, w.ft⟩, nF⟩
  · rw [upd_ne (ne b u e)]; exact e
  · have : b ≠ a := fun z => n (by rw [z]; exact ha)
    rw [upd_ne this]; exact n
  · rw [upd_ne (ne_of_none e nF)]; exact w.sub b u e
  · rw [upd_ne (ne _ _ w.pen)]; exact w.pen
  · rw [upd_ne (ne _ _ w.cel)]; exact w.cel
end
/-- the tables stand where a list is written -/
theorem tabs_upd {T : List (Addr × Str)} {H : Hp} {a : Addr} {u w : HO} (t : LamX.Tabs T H) (ha : H a = some u) (n1 : ∀ ps, u ≠ .tbl ps) (n2 : ∀ c q, u ≠ LamX.CodeO c q) : LamX.Tabs T (upd H a w) := fun p hp => by
  obtain ⟨ps, h1, h2, h3⟩ := t p hp
  have n3 : p.1 ≠ a := fun z => by
    rw [z, ha] at h1
    exact n1 ps (Option.some.inj h1)
  refine ⟨ps, by rw [upd_ne n3]; exact h1, h2, fun pos cv hc => ?_⟩
  obtain ⟨c, e1, e2⟩ := h3 pos cv hc
  refine ⟨c, e1, ?_⟩
  rw [upd_ne (fun z => by
    rw [z, ha] at e2
    exact n2 _ _ (Option.some.inj e2))]
  exact e2
theorem tabs_lst {T : List (Addr × Str)} {H : Hp} {a : Addr} {vs : List V} {w : HO} (t : LamX.Tabs T H) (ha : H a = some (.lst vs)) : LamX.Tabs T (upd H a w) := tabs_upd t ha nofun fun c q z => by
  unfold LamX.CodeO at z
  cases z
theorem tup_new {K : PySem.W.Frag} {S : Sx} {F H : Hp} {q : PenS} (w : Wf S q F H) {a : Addr} (ha : H a = none) {xs : List D} {vs : List V} (r : RepL K S F xs vs) : Rep K S (upd F a (.tup vs)) (.tup xs) (.ref a) :=
  .tup (.inl upd_same) (r.up (w.new ha (.tup vs)).1.f)
theorem lst_new {K : PySem.W.Frag} {S : Sx} {F H : Hp} {q : PenS} (w : Wf S q F H) {a : Addr} (ha : H a = none) {xs : List D} {vs : List V} (r : RepL K S F xs vs) : Rep K S (upd F a (.lst vs)) (.lst xs) (.ref a) :=
  .lst upd_same (r.up (w.new ha (.lst vs)).1.f)
end Dl
namespace Dl

open PySem PySem.Spec PyProof.Rows L2

/-! ### the function at hand, its slots -/
abbrev DEnv := List (Option D)
structure Fx where
  S : Sx
  F0 : Hp
  H0 : Hp
  own : Nat → Bool
inductive Br (K : PySem.W.Frag) (S : Sx) (F H : Hp) : D → V → Prop
  | rep {d : D} {v : V} : Rep K S F d v → Br K S F H d v
  | lst {a : Addr} {xs : List D} {vs : List V} : H a = some (.lst vs) → RepL K S F xs vs → Br K S F H (.lst xs) (.ref a)
  | dct {a : Addr} {kvs : List (Int × D)} {ws : List (Key × V)} : H a = some (.dK ws) → ws.map (·.1) = kvs.map (fun p => Sum.inl p.1) → RepL K S F (kvs.map (·.2)) (ws.map (·.2)) → Br K S F H (.dct kvs) (.ref a)
inductive BrL (K : PySem.W.Frag) (S : Sx) (F H : Hp) : List D → List V → Prop
  | nil : BrL K S F H [] []
  | cons {d : D} {v : V} {ds : List D} {vs : List V} : Br K S F H d v → BrL K S F H ds vs → BrL K S F H (d :: ds) (v :: vs)
/-- what an own object holds -/
inductive OwnO (K : PySem.W.Frag) (S : Sx) (F : Hp) : D → HO → Prop
  | lst {xs : List D} {vs : List V} : RepL K S F xs vs → OwnO K S F (.lst xs) (.lst vs)
  | dct {kvs : List (Int × D)} {ws : List (Key × V)} : ws.map (·.1) = kvs.map (fun p => Sum.inl p.1) → RepL K S F (kvs.map (·.2)) (ws.map (·.2)) → OwnO K S F (.dct kvs) (.dK ws)
theorem OwnO.nt {K : PySem.W.Frag} {S : Sx} {F : Hp} {d : D} {o : HO} (h : OwnO K S F d o) : ∀ ps, o ≠ .tbl ps := by
  cases h <;> nofun
theorem OwnO.tabs {K : PySem.W.Frag} {S : Sx} {F H : Hp} {T : List (Addr × Str)} {d : D} {o w : HO} {a : Addr} (h : OwnO K S F d o) (t : LamX.Tabs T H) (ha : H a = some o) : LamX.Tabs T (upd H a w) := by
  refine tabs_upd t ha h.nt fun c q z => ?_
  unfold LamX.CodeO at z
  cases h <;> cases z
theorem OwnO.up {K : PySem.W.Frag} {S : Sx} {F F' : Hp} (e : ∀ a o, F a = some o → F' a = some o) {d : D} {o : HO} (h : OwnO K S F d o) : OwnO K S F' d o := by
  cases h with
  | lst r => exact .lst (r.up e)
  | dct k r => exact .dct k (r.up e)
theorem OwnO.br {K : PySem.W.Frag} {S : Sx} {F H : Hp} {d : D} {o : HO} {a : Addr} (h : OwnO K S F d o) (ha : H a = some o) : Br K S F H d (.ref a) := by
  cases h with
  | lst r => exact .lst ha r
  | dct k r => exact .dct ha k r
def SlotR (K : PySem.W.Frag) (C : Fx) (F H : Hp) (i : Nat) (d : D) (v : V) : Prop :=
  if C.own i = true then ∃ a o, v = .ref a ∧ F a = none ∧ C.H0 a = none ∧ H a = some o ∧ OwnO K C.S F d o else Rep K C.S F d v
structure EnvR (K : PySem.W.Frag) (C : Fx) (ρ : DEnv) (F : Hp) (σ : L2.St) (H : Hp) : Prop where
  len : σ.length = ρ.length
  val : ∀ i d, ρ[i]? = some (some d) → ∃ v, σ[i]? = some (some v) ∧ SlotR K C F H i d v
  dis : ∀ i j a, i ≠ j → C.own i = true → C.own j = true → (∃ d, ρ[i]? = some (some d)) → (∃ d, ρ[j]? = some (some d)) → σ[i]? = some (some (.ref a)) → σ[j]? = some (some (.ref a)) → False
structure StR (K : PySem.W.Frag) (C : Fx) (ρ : DEnv) (q : PenS) (F : Hp) (σ : L2.St) (H : Hp) : Prop where
  w0 : ∃ q0, Wf C.S q0 C.F0 C.H0
  wf : Wf C.S q F H
  ev : Ev C.S C.F0 C.H0 F H
  env : EnvR K C ρ F σ H
section
variable {K : PySem.W.Frag} {C : Fx} {S : Sx} {F F' H H' : Hp} {ρ : DEnv} {q q' : PenS} {σ : L2.St}
theorem Br.up {d : D} {v : V} (w : Wf S q F H) (e : Ev S F H F' H') (b : Br K S F H d v) : Br K S F' H' d v := by
  cases b with
  | rep r => exact .rep (r.up e.f)
  | lst h r =>
    refine .lst (e.h _ _ h (fun z => ?_) nofun) (r.up e.f)
    rw [z, w.pen] at h
    cases h
  | @dct _ kvs _ h k r =>
    refine .dct (e.h _ _ h (fun z => ?_) nofun) k (r.up e.f)
    rw [z, w.pen] at h
    cases h
    cases kvs with
    | nil => cases k
    | cons p r => cases k
theorem BrL.up (w : Wf S q F H) (e : Ev S F H F' H') : ∀ {ds : List D} {vs : List V}, BrL K S F H ds vs → BrL K S F' H' ds vs
  | _, _, .nil => .nil
  | _, _, .cons b t => .cons (b.up w e) (BrL.up w e t)
theorem RepL.br : ∀ {ds : List D} {vs : List V}, RepL K S F ds vs → BrL K S F H ds vs
  | _, _, .nil => .nil
  | _, _, .cons r t => .cons (.rep r) (RepL.br t)
theorem StR.np (s : StR K C ρ q F σ H) {a : Addr} (h : C.H0 a = none) : a ≠ C.S.p ∧ a ≠ C.S.c := by
  obtain ⟨q0, w⟩ := s.w0
  refine ⟨fun e => ?_, fun e => ?_⟩
  · rw [e, w.pen] at h; cases h
  · rw [e, w.cel] at h; cases h
theorem SlotR.up {i : Nat} {d : D} {v : V} (s : StR K C ρ q F σ H) (e : Ev C.S F H F' H') (r : SlotR K C F H i d v) : SlotR K C F' H' i d v := by
  unfold SlotR at r ⊢
  by_cases h : C.own i = true
  · rw [if_pos h] at r ⊢
    obtain ⟨a, o, rfl, f0, h0, ha, r⟩ := r
    exact ⟨a, o, rfl, e.n a f0 (by rw [ha]; simp), h0, e.h a _ ha (s.np h0).1 r.nt, r.up e.f⟩
  · rw [if_neg h] at r ⊢
    exact r.up e.f
theorem StR.step (s : StR K C ρ q F σ H) (e : Ev C.S F H F' H') (w : Wf C.S q' F' H') : StR K C ρ q' F' σ H' :=
  ⟨s.w0, w, s.ev.trans e, s.env.len, fun i d h => by
    obtain ⟨v, h1, h2⟩ := s.env.val i d h
    exact ⟨v, h1, h2.up s e⟩, s.env.dis⟩
theorem StR.get {i : Nat} {d : D} (s : StR K C ρ q F σ H) (h : ρ[i]? = some (some d)) (ho : C.own i = false) : ∃ v, σ[i]? = some (some v) ∧ Rep K C.S F d v := by
  obtain ⟨v, h1, h2⟩ := s.env.val i d h
  unfold SlotR at h2
  rw [if_neg (by rw [ho]; decide)] at h2
  exact ⟨v, h1, h2⟩
theorem StR.getB {i : Nat} {d : D} (s : StR K C ρ q F σ H) (h : ρ[i]? = some (some d)) : ∃ v, σ[i]? = some (some v) ∧ Br K C.S F H d v := by
  obtain ⟨v, h1, h2⟩ := s.env.val i d h
  unfold SlotR at h2
  by_cases ho : C.own i = true
  · rw [if_pos ho] at h2
    obtain ⟨a, o, rfl, _, _, ha, r⟩ := h2
    exact ⟨_, h1, r.br ha⟩
  · rw [if_neg ho] at h2
    exact ⟨v, h1, .rep h2⟩
theorem getElem?_set_some {α : Type} {l : List (Option α)} {i j : Nat} {d e : α} (h : (l.set i (some d))[j]? = some (some e)) : (i = j ∧ e = d) ∨ (i ≠ j ∧ l[j]? = some (some e)) := by
  by_cases hij : i = j
  · subst hij
    by_cases hl : i < l.length
    · rw [List.getElem?_set_self hl] at h
      exact .inl ⟨rfl, (Option.some.inj (Option.some.inj h)).symm⟩
    · rw [List.getElem?_eq_none (by simpa using hl)] at h
      cases h
  · rw [List.getElem?_set_ne hij] at h
    exact .inr ⟨hij, h⟩
/-- a slot is set to a value that stays -/
theorem StR.set {i : Nat} {d : D} {v : V} (s : StR K C ρ q F σ H) (ho : C.own i = false) (r : Rep K C.S F d v) : StR K C (ρ.set i (some d)) q F (σ.set i (some v)) H := by
  refine ⟨s.w0, s.wf, s.ev, by rw [List.length_set, List.length_set]; exact s.env.len, fun j e h => ?_, fun j k a hjk oj ok ⟨d1, h1⟩ ⟨d2, h2⟩ e1 e2 => ?_⟩
  · rcases getElem?_set_some h with ⟨rfl, rfl⟩ | ⟨hij, h⟩
    · have hl : i < σ.length := by
        rw [s.env.len]
        have := (List.getElem?_eq_some_iff.mp h).1
        simpa using this
      refine ⟨v, List.getElem?_set_self hl, ?_⟩
      unfold SlotR
      rw [if_neg (by rw [ho]; decide)]
      exact r
    · obtain ⟨u, h1, h2⟩ := s.env.val j e h
      exact ⟨u, by rw [List.getElem?_set_ne hij]; exact h1, h2⟩
  · have nj : i ≠ j := fun z => by rw [z, oj] at ho; cases ho
    have nk : i ≠ k := fun z => by rw [z, ok] at ho; cases ho
    rw [List.getElem?_set_ne nj] at h1 e1
    rw [List.getElem?_set_ne nk] at h2 e2
    exact s.env.dis j k a hjk oj ok ⟨d1, h1⟩ ⟨d2, h2⟩ e1 e2
/-- an own slot is set to a new list -/
theorem StR.setO {i : Nat} {dn : D} {on : HO} {a : Addr} (s : StR K C ρ q F σ H) (ho : C.own i = true) (f0 : F a = none) (h0 : C.H0 a = none) (ha : H a = some on) (r : OwnO K C.S F dn on)
    (fresh : ∀ j d, j ≠ i → C.own j = true → ρ[j]? = some (some d) → σ[j]? ≠ some (some (.ref a))) : StR K C (ρ.set i (some dn)) q F (σ.set i (some (.ref a))) H := by
  refine ⟨s.w0, s.wf, s.ev, by rw [List.length_set, List.length_set]; exact s.env.len, fun j e h => ?_, fun j k b hjk oj ok ⟨d1, h1⟩ ⟨d2, h2⟩ e1 e2 => ?_⟩
  · rcases getElem?_set_some h with ⟨rfl, rfl⟩ | ⟨hij, h⟩
    · have hl : i < σ.length := by
        rw [s.env.len]
        have := (List.getElem?_eq_some_iff.mp h).1
        simpa using this
      refine ⟨_, List.getElem?_set_self hl, ?_⟩
      unfold SlotR
      rw [if_pos ho]
      exact ⟨a, on, rfl, f0, h0, ha, r⟩
    · obtain ⟨u, h1, h2⟩ := s.env.val j e h
      exact ⟨u, by rw [List.getElem?_set_ne hij]; exact h1, h2⟩
  · rcases getElem?_set_some h1 with ⟨rfl, rfl⟩ | ⟨nj, k1⟩
    · rcases getElem?_set_some h2 with ⟨rfl, rfl⟩ | ⟨nk, h2⟩
      · exact hjk rfl
      · have hl : i < σ.length := by
          rcases Nat.lt_or_ge i σ.length with z | z
          · exact z
          · rw [List.getElem?_eq_none (by simpa using z)] at e1
            cases e1
        rw [List.getElem?_set_self hl] at e1
        have e3 : a = b := by
          have := Option.some.inj (Option.some.inj e1)
          injection this
        rw [List.getElem?_set_ne nk, ← e3] at e2
        exact fresh k d2 (Ne.symm nk) ok h2 e2
    · rw [List.getElem?_set_ne nj] at e1
      rcases getElem?_set_some h2 with ⟨rfl, rfl⟩ | ⟨nk, h2⟩
      · have hl : i < σ.length := by
          rcases Nat.lt_or_ge i σ.length with z | z
          · exact z
          · rw [List.getElem?_eq_none (by simpa using z)] at e2
            cases e2
        rw [List.getElem?_set_self hl] at e2
        have e3 : a = b := by
          have := Option.some.inj (Option.some.inj e2)
          injection this
        rw [← e3] at e1
        exact fresh j d1 (Ne.symm nj) oj k1 e1
      · rw [List.getElem?_set_ne nk] at e2
        exact s.env.dis j k b hjk oj ok ⟨d1, k1⟩ ⟨d2, h2⟩ e1 e2
/-- an own slot's list is written -/
theorem StR.wr {i : Nat} {d0 dn : D} {a : Addr} {on : HO} (s : StR K C ρ q F σ H) (ho : C.own i = true) (hi : ρ[i]? = some (some d0)) (ha : σ[i]? = some (some (.ref a))) (r : OwnO K C.S F dn on) :
    StR K C (ρ.set i (some dn)) q F σ (upd H a on) := by
  obtain ⟨v, h1, h2⟩ := s.env.val i _ hi
  rw [ha] at h1
  have ev := Option.some.inj (Option.some.inj h1)
  subst ev
  unfold SlotR at h2
  rw [if_pos ho] at h2
  obtain ⟨a', o', e2, f0, h0, hH, r0⟩ := h2
  cases e2
  obtain ⟨np, nc⟩ := s.np h0
  refine ⟨s.w0, ⟨fun b o e => ?_, s.wf.fp, ?_, ?_, r0.tabs s.wf.tab hH, s.wf.ft⟩, ⟨s.ev.f, s.ev.n, fun b o e n t => ?_, fun b n => ?_⟩, ?_, fun j e h => ?_, fun j k b hjk oj ok ⟨d1, k1⟩ ⟨d2, k2⟩ e1 e2 => ?_⟩
  · rw [upd_ne (fun z => by rw [z, f0] at e; cases e)]
    exact s.wf.sub b o e
  · rw [upd_ne (Ne.symm np)]; exact s.wf.pen
  · rw [upd_ne (Ne.symm nc)]; exact s.wf.cel
  · rw [upd_ne (fun z => by rw [z, h0] at e; cases e)]
    exact s.ev.h b o e n t
  · by_cases hb : b = a
    · rw [hb, upd_same]; simp
    · rw [upd_ne hb]; exact s.ev.k b n
  · rw [List.length_set]; exact s.env.len
  · rcases getElem?_set_some h with ⟨rfl, rfl⟩ | ⟨hij, h⟩
    · refine ⟨_, ha, ?_⟩
      unfold SlotR
      rw [if_pos ho]
      exact ⟨a, on, rfl, f0, h0, upd_same, r⟩
    · obtain ⟨u, k1, k2⟩ := s.env.val j e h
      refine ⟨u, k1, ?_⟩
      unfold SlotR at k2 ⊢
      by_cases hj : C.own j = true
      · rw [if_pos hj] at k2 ⊢
        obtain ⟨b, ob, e2, g0, g1, gH, gr⟩ := k2
        refine ⟨b, ob, e2, g0, g1, ?_, gr⟩
        have nb : b ≠ a := fun z => by
          rw [e2] at k1
          exact s.env.dis i j a hij ho hj ⟨_, hi⟩ ⟨_, h⟩ ha (by rw [k1, z])
        rw [upd_ne nb]; exact gH
      · rw [if_neg hj] at k2 ⊢
        exact k2
  · have m : ∀ {n : Nat} {d : D}, (ρ.set i (some dn))[n]? = some (some d) → ∃ d, ρ[n]? = some (some d) := fun {n d} h => by
      rcases getElem?_set_some h with ⟨rfl, _⟩ | ⟨_, h⟩
      · exact ⟨_, hi⟩
      · exact ⟨_, h⟩
    exact s.env.dis j k b hjk oj ok (m k1) (m k2) e1 e2
/-- a slot is forgotten -/
theorem StR.drop {i : Nat} (s : StR K C ρ q F σ H) (x : Option V) (ho : ∀ a, x = some (.ref a) → C.own i = false ∨ True) : StR K C (ρ.set i none) q F (σ.set i x) H := by
  have m : ∀ {j : Nat} {d : D}, (ρ.set i none)[j]? = some (some d) → i ≠ j ∧ ρ[j]? = some (some d) := fun {j d} h => by
    by_cases hij : i = j
    · subst hij
      by_cases hl : i < ρ.length
      · rw [List.getElem?_set_self hl] at h
        cases h
      · rw [List.getElem?_eq_none (by simpa using hl)] at h
        cases h
    · rw [List.getElem?_set_ne hij] at h
      exact ⟨hij, h⟩
  refine ⟨s.w0, s.wf, s.ev, by rw [List.length_set, List.length_set]; exact s.env.len, fun j e h => ?_, fun j k a hjk oj ok ⟨d1, h1⟩ ⟨d2, h2⟩ e1 e2 => ?_⟩
  · obtain ⟨n, h⟩ := m h
    obtain ⟨v, h1, h2⟩ := s.env.val j e h
    exact ⟨v, by rw [List.getElem?_set_ne n]; exact h1, h2⟩
  · obtain ⟨n1, h1⟩ := m h1
    obtain ⟨n2, h2⟩ := m h2
    rw [List.getElem?_set_ne n1] at e1
    rw [List.getElem?_set_ne n2] at e2
    exact s.env.dis j k a hjk oj ok ⟨d1, h1⟩ ⟨d2, h2⟩ e1 e2
end
def wipeD (ρ : DEnv) : List Nat → DEnv
  | [] => ρ
  | v :: vs => (wipeD ρ vs).set v none
theorem StR.wipe {K : PySem.W.Frag} {C : Fx} {F H : Hp} {ρ : DEnv} {q : PenS} {σ : L2.St} (s : StR K C ρ q F σ H) : ∀ vs : List Nat, StR K C (wipeD ρ vs) q F (L2.wipe σ vs) H
  | [] => s
  | v :: vs => (StR.wipe s vs).drop none fun _ e => nomatch e

/-! ### results wanted -/
def ExcR (K : PySem.W.Frag) (S : Sx) (F H : Hp) (c : Str) (fs : List (Str × D)) (cls : Value) (d : Option Addr) : Prop :=
  cls = .ref (He.ga K c) ∧ ∃ dd ws, d = some dd ∧ H dd = some (.xd ws) ∧ ws.map (·.1) = fs.map (·.1) ∧ RepL K S F (fs.map (·.2)) (ws.map (·.2))
def Post {α β : Type} (K : PySem.W.Frag) (S : Sx) (E : XK) (F H : Hp) (Rel : Hp → Hp → α → β → Prop) (r : Rz α) (Q : β → Hp → Prop) : Prop :=
  match r with
  | .ok a q => ∀ b F' H', Ev S F H F' H' → Wf S q F' H' → Rel F' H' a b → Q b H'
  | .exc c fs q => ∀ cls d F' H', Ev S F H F' H' → Wf S q F' H' → ExcR K S F' H' c fs cls d → E cls d H'
  | .bad => False
theorem Post.ev {α β : Type} {K : PySem.W.Frag} {S : Sx} {E : XK} {F H F1 H1 : Hp} {Rel : Hp → Hp → α → β → Prop} {r : Rz α} {Q : β → Hp → Prop} (e : Ev S F H F1 H1) (h : Post K S E F H Rel r Q) : Post K S E F1 H1 Rel r Q := by
  cases r with
  | ok a q => exact fun b F' H' x w rel => h b F' H' (e.trans x) w rel
  | exc c fs q => exact fun cls d F' H' x w rel => h cls d F' H' (e.trans x) w rel
  | bad => exact h
/-- what a code wants, told by a function of the slots -/
def tG {α β : Type} (K : PySem.W.Frag) (C : Fx) (W : WX) (Rel : Hp → Hp → α → β → Prop) (g : DEnv → M α) : L2.St → Hp → (β → Hp → Prop) → Prop := fun σ H Q =>
  ∃ ρ q F, StR K C ρ q F σ H ∧ Post K C.S (fun cls d H' => W cls d σ H') F H Rel (g ρ q) Q
abbrev RE (K : PySem.W.Frag) (S : Sx) : Hp → Hp → D → V → Prop := fun F _ d v => Rep K S F d v
abbrev RB (K : PySem.W.Frag) (S : Sx) : Hp → Hp → D → V → Prop := fun F H d v => Br K S F H d v
abbrev RT : Hp → Hp → Bool → Bool → Prop := fun _ _ b c => c = b
abbrev RA (K : PySem.W.Frag) (S : Sx) : Hp → Hp → List D → List V → Prop := fun F _ d v => RepL K S F d v
abbrev RAb (K : PySem.W.Frag) (S : Sx) : Hp → Hp → List D → List V → Prop := fun F H d v => BrL K S F H d v
abbrev tE (K : PySem.W.Frag) (C : Fx) (W : WX) (g : DEnv → M D) : TE := tG K C W (RE K C.S) g
abbrev tEb (K : PySem.W.Frag) (C : Fx) (W : WX) (g : DEnv → M D) : TE := tG K C W (RB K C.S) g
abbrev tT (K : PySem.W.Frag) (C : Fx) (W : WX) (g : DEnv → M Bool) : TT := tG K C W RT g
abbrev tA (K : PySem.W.Frag) (C : Fx) (W : WX) (g : DEnv → M (List D)) : TA := tG K C W (RA K C.S) g
abbrev tAb (K : PySem.W.Frag) (C : Fx) (W : WX) (g : DEnv → M (List D)) : TA := tG K C W (RAb K C.S) g
section
variable {K : PySem.W.Frag} {C : Fx} {W : WX} {α β γ δ : Type}
/-- one code behind another -/
theorem Post.seq {S : Sx} {E : XK} {F H : Hp} {R1 : Hp → Hp → α → β → Prop} {R2 : Hp → Hp → γ → δ → Prop} {r : Rz α} {f : α → M γ} {Q : δ → Hp → Prop} {Q' : β → Hp → Prop} (h : Post K S E F H R2 (r.bd f) Q)
    (k : ∀ a b q F1 H1, Ev S F H F1 H1 → Wf S q F1 H1 → R1 F1 H1 a b → Post K S E F1 H1 R2 (f a q) Q → Q' b H1) : Post K S E F H R1 r Q' := by
  cases r with
  | ok a q1 => exact fun b F1 H1 ev wf rel => k a b q1 F1 H1 ev wf rel (Post.ev ev h)
  | exc c fs q1 => exact h
  | bad => exact h
theorem tG_map {R1 : Hp → Hp → α → β → Prop} {R2 : Hp → Hp → α → β → Prop} {g : DEnv → M α} {σ : L2.St} {H : Hp} {Q : β → Hp → Prop} (i : ∀ F H a b, R1 F H a b → R2 F H a b) (h : tG K C W R2 g σ H Q) : tG K C W R1 g σ H Q := by
  obtain ⟨ρ, q, F, s, h⟩ := h
  refine ⟨ρ, q, F, s, ?_⟩
  cases e : g ρ q with
  | ok a q1 =>
    rw [e] at h
    exact fun b F1 H1 ev wf rel => h b F1 H1 ev wf (i _ _ _ _ rel)
  | exc c fs q1 =>
    rw [e] at h
    exact h
  | bad =>
    rw [e] at h
    exact h
theorem tG_mono {R1 : Hp → Hp → α → β → Prop} {g : DEnv → M α} {σ : L2.St} {H : Hp} {Q Q' : β → Hp → Prop} (h : tG K C W R1 g σ H Q) (i : ∀ b H, Q b H → Q' b H) : tG K C W R1 g σ H Q' := by
  obtain ⟨ρ, q, F, s, h⟩ := h
  refine ⟨ρ, q, F, s, ?_⟩
  cases e : g ρ q with
  | ok a q1 =>
    rw [e] at h
    exact fun b F1 H1 ev wf rel => i _ _ (h b F1 H1 ev wf rel)
  | exc c fs q1 =>
    rw [e] at h
    exact h
  | bad =>
    rw [e] at h
    exact h
end

/-! ### judgements weakened -/
section
variable {X : Cx}
theorem pe_imp {e : Expr} {t t' : TE} (h : PE X e t) (i : ∀ σ H Q, t' σ H Q → t σ H Q) : PE X e t' := ⟨fun pins s σ H Q I w => h.run pins s σ H Q I (i σ H Q w)⟩
theorem pt_imp {e : Expr} {t t' : TT} (h : PT X e t) (i : ∀ σ H Q, t' σ H Q → t σ H Q) : PT X e t' := ⟨fun pins s σ H Q I w => h.run pins s σ H Q I (i σ H Q w)⟩
theorem pw_imp {e : Expr} {t t' : TT} (h : PW X e t) (i : ∀ σ H Q, t' σ H Q → t σ H Q) : PW X e t' := ⟨fun wh pins s σ H Q I w => h.run wh pins s σ H Q I (i σ H Q w)⟩
theorem pa_imp {es : List Expr} {t t' : TA} (h : PA X es t) (i : ∀ σ H Q, t' σ H Q → t σ H Q) : PA X es t' := ⟨fun pos pins s σ H Q I w => h.run pos pins s σ H Q I (i σ H Q w)⟩
theorem ps_imp {st : Stmt} {t t' : TS} (h : PS X st t) (i : ∀ D σ H, t' D σ H → t D σ H) : PS X st t' := ⟨fun pins s σ H D I w => h.run pins s σ H D I (i D σ H w)⟩
theorem pss_imp {st : List Stmt} {t t' : TS} (h : PSs X st t) (i : ∀ D σ H, t' D σ H → t D σ H) : PSs X st t' := ⟨fun pins s σ H D I w => h.run pins s σ H D I (i D σ H w)⟩
theorem pi_imp {tg it : Expr} {t t' : TI} (h : PI X tg it t) (i : ∀ σ H R, t' σ H R → t σ H R) : PI X tg it t' := ⟨fun pins s σ H R I w => h.run pins s σ H R I (i σ H R w)⟩
theorem op_imp {f : Value → Value → Sem Value} {r r' : R2} (h : OpR X f r) (i : ∀ x y H Q, r' x y H Q → r x y H Q) : OpR X f r' := fun pins s σ H x y v u Q I rx ry w => h pins s σ H x y v u Q I rx ry (i x y H Q w)
theorem call_imp {f : Value} {r r' : List V → Hp → VK → Prop} (h : CallR X f r) (i : ∀ xs H Q, r' xs H Q → r xs H Q) : CallR X f r' := fun pins s σ H xs us Q I rx w => h pins s σ H xs us Q I rx (i xs H Q w)
end
end Dl
namespace Dl
open PySem PySem.Spec PyProof.Rows L2

/-! ### combinators of expressions -/
def gVar (i : Nat) : DEnv → M D := fun ρ q => match ρ[i]? with
  | some (some d) => .ok d q
  | _ => .bad
def gC (d : D) : DEnv → M D := fun _ q => .ok d q
def g1 {α β : Type} (f : α → Option β) (a : DEnv → M α) : DEnv → M β := fun ρ => a ρ >>= fun x => lift (f x)
def g2 {α β γ : Type} (f : α → β → Option γ) (a : DEnv → M α) (b : DEnv → M β) : DEnv → M γ := fun ρ => a ρ >>= fun x => b ρ >>= fun y => lift (f x y)
def mNil : DEnv → M (List D) := fun _ q => .ok [] q
def mCons (a : DEnv → M D) (r : DEnv → M (List D)) : DEnv → M (List D) := fun ρ => a ρ >>= fun x => r ρ >>= fun xs => lift (some (x :: xs))
def gCall (n : Nat) (f : List D → M D) (as : DEnv → M (List D)) : DEnv → M D := fun ρ => as ρ >>= fun ds => if ds.length = n then f ds else lift none
def mTup (as : DEnv → M (List D)) : DEnv → M D := g1 (fun ds => if ds.length ≤ 100000 then some (D.tup ds) else none) as
def mLst (as : DEnv → M (List D)) : DEnv → M D := g1 (fun ds => if ds.length ≤ 100000 then some (D.lst ds) else none) as
def gIf {α : Type} (t : DEnv → M Bool) (a b : DEnv → M α) : DEnv → M α := fun ρ => t ρ >>= fun c => if c = true then a ρ else b ρ
def boolD : D → Option Bool
  | .bl b => some b
  | _ => none
def truD : D → Option Bool
  | .bl b => some b
  | .non => some false
  | .int i => some (i != 0)
  | .lst xs => some (!xs.isEmpty)
  | .tup xs => some (!xs.isEmpty)
  | _ => none
def gNot (t : DEnv → M Bool) : DEnv → M Bool := g1 (fun b => some (!b)) t
def gAnd (t u : DEnv → M Bool) : DEnv → M Bool := gIf t u fun _ q => .ok false q
def gOr (t u : DEnv → M Bool) : DEnv → M Bool := gIf t (fun _ q => .ok true q) u
/-- as values -/
def gBl (t : DEnv → M Bool) : DEnv → M D := g1 (fun b => some (D.bl b)) t

/-! ### helpers -/
section
variable {K : PySem.W.Frag} {C : Fx} {S : Sx} {F F' H H' : Hp} {q q' : PenS}
theorem line6 {n : Nat} (h : n ≤ 1000000) : n ≤ sizeLine := Nat.le_trans h (by rw [sizeLine_eq]; decide)
theorem line5 {n : Nat} (h : n ≤ 100000) : n ≤ sizeLine := line6 (by omega)
theorem Br.tup {xs : List D} {v : V} (w : Wf S q F H) (b : Br K S F H (.tup xs) v) : ∃ a vs, v = .ref a ∧ TQ K H a vs ∧ RepL K S F xs vs := by
  cases b with
  | rep r =>
    cases r with
    | tup h t => exact ⟨_, _, rfl, h.up w.sub, t⟩
theorem Br.seq {xs : List D} {v : V} (w : Wf S q F H) (b : Br K S F H (.lst xs) v) : ∃ a vs, v = .ref a ∧ H a = some (.lst vs) ∧ RepL K S F xs vs := by
  cases b with
  | rep r =>
    cases r with
    | lst h t => exact ⟨_, _, rfl, w.sub _ _ h, t⟩
  | lst h t => exact ⟨_, _, rfl, h, t⟩
/-- what is wanted of a value that comes from o -/
def Res {α β : Type} (S : Sx) (q : PenS) (F H : Hp) (Rel : Hp → Hp → α → β → Prop) (o : Option α) (Q : β → Hp → Prop) : Prop :=
  match o with
  | some z => ∀ v F' H', Ev S F H F' H' → Wf S q F' H' → Rel F' H' z v → Q v H'
  | none => False
theorem Res.same {Rel : Hp → Hp → D → V → Prop} {o : Option D} {z : D} {v : V} {Q : VK} (w : Wf S q F H) (h : Res S q F H Rel o Q) (e : o = some z) (r : Rel F H z v) : Q v H := by
  rw [e] at h
  exact h v F H .refl w r
theorem Res.newT {xs : List D} {vs : List V} {a : Addr} {o : Option D} {Q : VK} (w : Wf S q F H) (h : Res S q F H (RE K S) o Q) (e : o = some (.tup xs)) (r : RepL K S F xs vs) (ha : H a = none) : Q (.ref a) (upd H a (.tup vs)) := by
  rw [e] at h
  exact h _ _ _ (w.new ha _).1 (w.new ha _).2 (tup_new w ha r)
theorem Res.newL {xs : List D} {vs : List V} {a : Addr} {o : Option D} {Q : VK} (w : Wf S q F H) (h : Res S q F H (RE K S) o Q) (e : o = some (.lst xs)) (r : RepL K S F xs vs) (ha : H a = none) : Q (.ref a) (upd H a (.lst vs)) := by
  rw [e] at h
  exact h _ _ _ (w.new ha _).1 (w.new ha _).2 (lst_new w ha r)
theorem Post.lift {α β : Type} {E : XK} {Rel : Hp → Hp → α → β → Prop} {o : Option α} {Q : β → Hp → Prop} (h : Post K S E F H Rel (lift o q) Q) : Res S q F H Rel o Q := by
  cases o with
  | some z => exact h
  | none => exact h
end

section
variable {X : Cx} {C : Fx} {W : WX} {σ : L2.St} {H : Hp}
/-! ### names, constants -/
theorem de_var (i : Nat) {x : Str} {pos : Pos} (ho : C.own i = false) (hN : X.N[i]? = some x := by rfl) (hv : Vis X.env.scope x := by first | exact Or.inl rfl | exact Or.inr (Or.inl rfl) | exact Or.inr (Or.inr rfl)) (hd : (x == ("__debug__" : Str)) = false := by decide)
    (hcd : (x == ("__classdict__" : Str)) = false := by decide) : PE X (.Name x pos) (tE X.K C W (gVar i)) := by
  refine pe_imp (pe_var hN hv hd hcd) fun σ H Q h => ?_
  obtain ⟨ρ, q, F, s, h⟩ := h
  unfold gVar at h
  cases e : ρ[i]? with
  | none => rw [e] at h; exact h.elim
  | some o =>
    rw [e] at h
    cases o with
    | none => exact h.elim
    | some d =>
      obtain ⟨v, h1, h2⟩ := s.get e ho
      exact ⟨v, h1, h v F H .refl s.wf h2⟩
theorem db_var (i : Nat) {x : Str} {pos : Pos} (hN : X.N[i]? = some x := by rfl) (hv : Vis X.env.scope x := by first | exact Or.inl rfl | exact Or.inr (Or.inl rfl) | exact Or.inr (Or.inr rfl)) (hd : (x == ("__debug__" : Str)) = false := by decide)
    (hcd : (x == ("__classdict__" : Str)) = false := by decide) : PE X (.Name x pos) (tEb X.K C W (gVar i)) := by
  refine pe_imp (pe_var hN hv hd hcd) fun σ H Q h => ?_
  obtain ⟨ρ, q, F, s, h⟩ := h
  unfold gVar at h
  cases e : ρ[i]? with
  | none => rw [e] at h; exact h.elim
  | some o =>
    rw [e] at h
    cases o with
    | none => exact h.elim
    | some d =>
      obtain ⟨v, h1, h2⟩ := s.getB e
      exact ⟨v, h1, h v F H .refl s.wf h2⟩
theorem de_c {e : Expr} {v : V} {d : D} (h : PE X e (tC v)) (r : ∀ F, Rep X.K C.S F d v) : PE X e (tE X.K C W (gC d)) := pe_imp h fun σ H Q h => by
  obtain ⟨ρ, q, F, s, h⟩ := h
  exact h v F H .refl s.wf (r F)
theorem de_int {i : Int} {j : Nat} {pos : Pos} : PE X (.Constant (.int i) j pos) (tE X.K C W (gC (.int i))) := de_c pe_int fun _ => .int i
theorem de_bl {b : Bool} {j : Nat} {pos : Pos} : PE X (.Constant (.bool b) j pos) (tE X.K C W (gC (.bl b))) := de_c pe_bl fun _ => .bl b
theorem de_non {j : Nat} {pos : Pos} : PE X (.Constant .none j pos) (tE X.K C W (gC .non)) := de_c pe_non fun _ => .non
theorem de_str {x : Str} {j : Nat} {pos : Pos} : PE X (.Constant (.str x) j pos) (tE X.K C W (gC (.str x))) := de_c pe_str fun _ => .str x
theorem de_glob {x : Str} {u : Value} {v : V} {d : D} {pos : Pos} (hm : X.mg x = some u) (rv : RelV v u) (r : ∀ F, Rep X.K C.S F d v) (hg : Gl X x := by rfl) (hd : (x == ("__debug__" : Str)) = false := by decide) : PE X (.Name x pos) (tE X.K C W (gC d)) :=
  de_c (pe_glob hg hm rv hd) r
theorem de_ty {x : Str} {n : String} {pos : Pos} (hm : X.mg x = none) (hv : bootBuiltins x = some (.type n)) (hg : Gl X x := by rfl) (hn : x ≠ "__name__" := by decide) (hd : (x == ("__debug__" : Str)) = false := by decide) : PE X (.Name x pos) (tE X.K C W (gC (.ty n))) :=
  de_c (pe_bltn (v := .ty n) hg hm hv rfl hn hd) fun _ => .ty n
/-- a frozen value may be read as a borrowed one -/
theorem PE.db {e : Expr} {g : DEnv → M D} (h : PE X e (tE X.K C W g)) : PE X e (tEb X.K C W g) := pe_imp h fun _ _ _ h => tG_map (fun _ _ _ _ r => .rep r) h

/-! ### operators -/
def rD2 (K : PySem.W.Frag) (S : Sx) (f : D → D → Option D) : R2 := fun x y H Q => ∃ q F d e, Wf S q F H ∧ Br K S F H d x ∧ Br K S F H e y ∧ Res S q F H (RE K S) (f d e) Q
def rD1 (K : PySem.W.Frag) (S : Sx) (f : D → Option D) : V → Hp → VK → Prop := fun x H Q => ∃ q F d, Wf S q F H ∧ Br K S F H d x ∧ Res S q F H (RE K S) (f d) Q
theorem t_op2 {f : D → D → Option D} {ga gb : DEnv → M D} {σ : L2.St} {H : Hp} {Q : VK} (h : tE X.K C W (g2 f ga gb) σ H Q) : tOp (rD2 X.K C.S f) (tEb X.K C W ga) (tEb X.K C W gb) σ H Q := by
  obtain ⟨ρ, q, F, s, h⟩ := h
  refine ⟨ρ, q, F, s, Post.seq h fun d x q1 F1 H1 e1 w1 r1 h1 => ?_⟩
  refine ⟨ρ, q1, F1, s.step e1 w1, Post.seq h1 fun e y q2 F2 H2 e2 w2 r2 h2 => ?_⟩
  exact ⟨q2, F2, d, e, w2, r1.up w1 e2, r2, h2.lift⟩
theorem de_op2 {op : Operator} {f : D → D → Option D} {ga gb : DEnv → M D} {a b : Expr} {pos : Pos} (ho : OpR X (binaryOp op) (rD2 X.K C.S f)) (ha : PE X a (tEb X.K C W ga)) (hb : PE X b (tEb X.K C W gb)) : PE X (.BinOp a op b pos) (tE X.K C W (g2 f ga gb)) :=
  pe_imp (pe_op ho ha hb) fun _ _ _ => t_op2
theorem de_cmp {op : CmpOp} {f : D → D → Option D} {ga gb : DEnv → M D} {a b : Expr} {pos : Pos} (ho : OpR X (compareOp op) (rD2 X.K C.S f)) (ha : PE X a (tEb X.K C W ga)) (hb : PE X b (tEb X.K C W gb)) (hm : behindInMarks op b = false) : PE X (.Compare a [op] [b] pos) (tE X.K C W (g2 f ga gb)) :=
  pe_imp (pe_cmpR ho ha hb hm) fun _ _ _ => t_op2
theorem de_un {op : UnaryOp} {f : D → Option D} {ga : DEnv → M D} {a : Expr} {pos : Pos} (ho : UnR X (unaryOp op) (rD1 X.K C.S f)) (ha : PE X a (tEb X.K C W ga)) : PE X (.UnaryOp op a pos) (tE X.K C W (g1 f ga)) :=
  pe_imp (pe_un ho ha) fun σ H Q h => by
    obtain ⟨ρ, q, F, s, h⟩ := h
    refine ⟨ρ, q, F, s, Post.seq h fun d x q1 F1 H1 e1 w1 r1 h1 => ?_⟩
    exact ⟨q1, F1, d, w1, r1, h1.lift⟩
end
end Dl
namespace Dl
open PySem PySem.Spec PyProof.Rows L2

/-! ### what the operators do with plain values -/
def addD : D → D → Option D
  | .int i, .int j => some (.int (i + j))
  | .tup a, .tup b => if a.length + b.length ≤ 100000 then some (.tup (a ++ b)) else none
  | .lst a, .lst b => if a.length + b.length ≤ 100000 then some (.lst (a ++ b)) else none
  | _, _ => none
def subD : D → D → Option D
  | .int i, .int j => some (.int (i - j))
  | _, _ => none
def mulD : D → D → Option D
  | .int i, .int j => if i.natAbs.log2 + j.natAbs.log2 < 1000000 then some (.int (i * j)) else none
  | .tup a, .int k => if a ≠ [] ∧ 2 ≤ k ∧ k ≤ 1000 ∧ a.length ≤ 1000 then some (.tup (List.replicate k.toNat a).flatten) else none
  | .lst a, .int k => if 0 ≤ k ∧ k ≤ 1000 ∧ a.length ≤ 1000 then some (.lst (List.replicate k.toNat a).flatten) else none
  | _, _ => none
def fdivD : D → D → Option D
  | .int i, .int j => if j ≠ 0 ∧ j.natAbs < 1073741824 then some (.int (i.fdiv j)) else if 0 < j ∧ j.natAbs.log2 < 9000 then some (.int (i.fdiv j)) else none
  | _, _ => none
def modD : D → D → Option D
  | .int i, .int j => if j ≠ 0 then some (.int (i.fmod j)) else none
  | _, _ => none
def powD : D → D → Option D
  | .int i, .int j => if 0 ≤ j ∧ j ≤ 1000000 ∧ i.natAbs < 2 ^ 64 then some (.int (i ^ j.toNat)) else none
  | _, _ => none
def negD : D → Option D
  | .int i => some (.int (-i))
  | _ => none
def ltD : D → D → Option D
  | .int i, .int j => some (.bl (decide (i < j)))
  | _, _ => none
def leD : D → D → Option D
  | .int i, .int j => some (.bl (decide (i ≤ j)))
  | _, _ => none
def gtD : D → D → Option D
  | .int i, .int j => some (.bl (decide (j < i)))
  | _, _ => none
def geD : D → D → Option D
  | .int i, .int j => some (.bl (decide (j ≤ i)))
  | _, _ => none
mutual
def py : D → Option PyData
  | .non => some .none
  | .bl b => some (.bool b)
  | .int i => some (.int i)
  | .str x => some (.str x)
  | .tup xs => (pyL xs).map .tuple
  | .lst xs => (pyL xs).map .list
  | _ => none
def pyL : List D → Option (List PyData)
  | [] => some []
  | x :: xs => match py x, pyL xs with
    | some a, some b => some (a :: b)
    | _, _ => none
end
def eqD (d e : D) : Option D := match py d, py e with
  | some a, some b => if SeqAt.shaped a = true ∧ SeqAt.shaped b = true then some (.bl (PyData.eqv a b)) else none
  | _, _ => none
def neD (d e : D) : Option D := match py d, py e with
  | some a, some b => if SeqAt.shaped a = true ∧ SeqAt.shaped b = true then some (.bl (!PyData.eqv a b)) else none
  | _, _ => none
def isNonD : D → Option D
  | .non => some (.bl true)
  | _ => some (.bl false)
def notNonD : D → Option D
  | .non => some (.bl false)
  | _ => some (.bl true)
def iD : D → Option Int
  | .int i => some i
  | _ => none
/-- x in xs, all ints -/
def inD : D → D → Option D
  | .int i, .tup xs => (xs.mapM iD).map fun ns => .bl (decide (i ∈ ns))
  | .int i, .lst xs => (xs.mapM iD).map fun ns => .bl (decide (i ∈ ns))
  | _, _ => none
def notInD (d e : D) : Option D := match inD d e with
  | some (.bl b) => some (.bl (!b))
  | _ => none
section
variable {K : PySem.W.Frag} {S : Sx} {F H : Hp} {q : PenS}
mutual
theorem Rep.py {H : Hp} (w : ∀ a o, F a = some o → H a = some o) : ∀ {d : D} {v : V} {p : PyData}, Rep K S F d v → py d = some p → Dp K H v p
  | _, _, _, .non, e => by cases e; exact .non
  | _, _, _, .bl b, e => by cases e; exact .bl b
  | _, _, _, .int i, e => by cases e; exact .int i
  | _, _, _, .str x, e => by cases e; exact .str x
  | .tup xs, _, p, .tup h r, e => by
    have e2 : (pyL xs).map PyData.tuple = some p := e
    cases e3 : pyL xs with
    | none => rw [e3] at e2; cases e2
    | some l =>
      rw [e3] at e2
      have e4 := Option.some.inj e2
      subst e4
      exact .tup (h.up w).sq (RepL.py w r e3)
  | .lst xs, _, p, .lst h r, e => by
    have e2 : (pyL xs).map PyData.list = some p := e
    cases e3 : pyL xs with
    | none => rw [e3] at e2; cases e2
    | some l =>
      rw [e3] at e2
      have e4 := Option.some.inj e2
      subst e4
      exact .lst (SqL.of (w _ _ h)) (RepL.py w r e3)
  | _, _, _, .ref a, e => nomatch e
  | _, _, _, .pen, e => nomatch e
  | _, _, _, .ty n, e => nomatch e
  | _, _, _, .dct h k r, e => nomatch e
theorem RepL.py {H : Hp} (w : ∀ a o, F a = some o → H a = some o) : ∀ {ds : List D} {vs : List V} {ps : List PyData}, RepL K S F ds vs → pyL ds = some ps → DpAll K H vs ps
  | _, _, _, .nil, e => by cases e; exact .nil
  | d :: ds, _, ps, .cons r t, e => by
    have e2 : (match Dl.py d, pyL ds with
      | some a, some b => some (a :: b)
      | _, _ => none) = some ps := e
    cases h1 : Dl.py d with
    | none => rw [h1] at e2; cases e2
    | some a =>
      cases h2 : pyL ds with
      | none => rw [h1, h2] at e2; cases e2
      | some b =>
        rw [h1, h2] at e2
        have e4 := Option.some.inj e2
        subst e4
        exact .cons (Rep.py w r h1) (RepL.py w t h2)
end
theorem Br.py (w : Wf S q F H) {d : D} {v : V} {p : PyData} (b : Br K S F H d v) (e : Dl.py d = some p) : Dp K H v p := by
  cases b with
  | rep r => exact r.py w.sub e
  | dct h k r => cases e
  | @lst a xs vs h r =>
    have e2 : (pyL xs).map PyData.list = some p := e
    cases e3 : pyL xs with
    | none => rw [e3] at e2; cases e2
    | some l =>
      rw [e3] at e2
      have e4 := Option.some.inj e2
      subst e4
      exact .lst (SqL.of h) (r.py w.sub e3)
theorem flat_of : ∀ {xs : List D} {ns : List Int} {vs : List V}, (xs.mapM iD) = some ns → RepL K S F xs vs → xs = ns.map D.int ∧ vs = ns.map V.int
  | [], ns, vs, e, r => by
    cases r
    simp at e
    subst e
    exact ⟨rfl, rfl⟩
  | d :: xs, ns, vs, e, r => by
    cases r with
    | @cons _ v _ ws r t =>
      cases d with
      | int j =>
        rw [List.mapM_cons] at e
        cases e1 : (xs.mapM iD) with
        | none => rw [e1] at e; simp [iD] at e
        | some ms =>
          rw [e1] at e
          simp [iD] at e
          subst e
          obtain ⟨h1, h2⟩ := flat_of (xs := xs) e1 t
          cases r
          exact ⟨by rw [h1]; rfl, by rw [h2]; rfl⟩
      | _ => rw [List.mapM_cons] at e; simp [iD] at e
theorem inV_ints (i : Int) : ∀ ns : List Int, inV (.int i) (ns.map V.int) = decide (i ∈ ns)
  | [] => by simp [inV]
  | n :: r => by
    have ih := inV_ints i r
    unfold inV at ih ⊢
    rw [List.map_cons, List.any_cons, ih]
    by_cases h : i = n
    · subst h
      simp [eqV]
    · have h2 : ¬ n = i := fun z => h z.symm
      simp [eqV, h, h2]
end
theorem RepL.rep {K : PySem.W.Frag} {S : Sx} {F : Hp} {ds : List D} {vs : List V} (r : RepL K S F ds vs) : ∀ n : Nat, RepL K S F (List.replicate n ds).flatten (List.replicate n vs).flatten
  | 0 => .nil
  | n + 1 => by
    rw [List.replicate_succ, List.replicate_succ, List.flatten_cons, List.flatten_cons]
    exact r.append (RepL.rep r n)
section
variable {X : Cx} {S : Sx}
theorem rep_int {K : PySem.W.Frag} {F H : Hp} {i : Int} {v : V} (b : Br K S F H (.int i) v) : v = .int i := by
  cases b with
  | rep r => cases r; rfl
theorem rep_non {K : PySem.W.Frag} {F H : Hp} {v : V} (b : Br K S F H .non v) : v = .non := by
  cases b with
  | rep r => cases r; rfl
/-- by ints -/
theorem op_ofI {f : Value → Value → Sem Value} {g : D → D → Option D} {Cd : Int → Int → Prop} {h : Int → Int → D} {hv : Int → Int → V} (rule : OpR X f (rI Cd hv)) (hg : ∀ d e z, g d e = some z → ∃ i j, d = .int i ∧ e = .int j ∧ Cd i j ∧ z = h i j) (hr : ∀ i j F, Rep X.K S F (h i j) (hv i j)) :
    OpR X f (rD2 X.K S g) := op_imp rule fun x y H Q hh => by
  obtain ⟨q, F, d, e, w, r1, r2, res⟩ := hh
  cases eg : g d e with
  | none => rw [eg] at res; exact res.elim
  | some z =>
    obtain ⟨i, j, rfl, rfl, hc, rfl⟩ := hg d e z eg
    exact ⟨i, j, rep_int r1, rep_int r2, hc, res.same w eg (hr i j F)⟩
theorem od_add : OpR X (binaryOp .Add) (rD2 X.K S addD) := by
  intro pins s σ H x y v u Q I rx ry h
  obtain ⟨q, F, d, e, w, r1, r2, res⟩ := h
  unfold addD at res
  split at res
  · exact op_add pins s σ H x y v u Q I rx ry ⟨_, _, rep_int r1, rep_int r2, res.same w rfl (.int _)⟩
  · rename_i a b
    obtain ⟨a1, vs, rfl, h1, t1⟩ := r1.tup w
    obtain ⟨b1, ws, rfl, h2, t2⟩ := r2.tup w
    split at res
    · rename_i hl
      refine op_catA pins s σ H _ _ v u Q I rx ry ⟨a1, b1, vs, ws, rfl, rfl, h1.sq, h2.sq, line5 (by rw [t1.length, t2.length]; exact hl), fun e => ?_, fun _ e => ?_, fun _ _ p hp => res.newT w rfl (t1.append t2) hp⟩
      · subst e
        have e0 : a = [] := by cases t1; rfl
        subst e0
        cases r2 with
        | rep r => exact res.same w rfl r
      · subst e
        have e0 : b = [] := by cases t2; rfl
        subst e0
        cases r1 with
        | rep r => exact res.same w (by rw [List.append_nil]) r
    · exact res.elim
  · rename_i a b
    obtain ⟨a1, vs, rfl, h1, t1⟩ := r1.seq w
    obtain ⟨b1, ws, rfl, h2, t2⟩ := r2.seq w
    split at res
    · rename_i hl
      exact op_cat pins s σ H _ _ v u Q I rx ry ⟨a1, b1, vs, ws, rfl, rfl, h1, h2, line5 (by rw [t1.length, t2.length]; exact hl), fun p hp => res.newL w rfl (t1.append t2) hp⟩
    · exact res.elim
  · exact res.elim
theorem od_sub : OpR X (binaryOp .Sub) (rD2 X.K S subD) := op_imp op_sub fun x y H Q h => by
  obtain ⟨q, F, d, e, w, r1, r2, res⟩ := h
  unfold subD at res
  split at res
  · exact ⟨_, _, rep_int r1, rep_int r2, res.same w rfl (.int _)⟩
  · exact res.elim
theorem od_mul : OpR X (binaryOp .Mult) (rD2 X.K S mulD) := by
  intro pins s σ H x y v u Q I rx ry h
  obtain ⟨q, F, d, e, w, r1, r2, res⟩ := h
  unfold mulD at res
  split at res
  · split at res
    · rename_i hl
      exact op_mulW pins s σ H x y v u Q I rx ry ⟨_, _, rep_int r1, rep_int r2, hl, res.same w rfl (.int _)⟩
    · exact res.elim
  · rename_i a k
    split at res
    · rename_i hl
      obtain ⟨a1, vs, rfl, h1, t1⟩ := r1.tup w
      refine op_repT pins s σ H _ y v u Q I rx ry ⟨a1, k, vs, rfl, rep_int r2, h1.sq, fun z => hl.1 ?_, hl.2.1, hl.2.2.1, by rw [t1.length]; exact hl.2.2.2, fun p hp => res.newT w rfl (t1.rep _) hp⟩
      subst z
      cases t1
      rfl
    · exact res.elim
  · rename_i a k
    split at res
    · rename_i hl
      obtain ⟨a1, vs, rfl, h1, t1⟩ := r1.seq w
      refine op_rep pins s σ H _ y v u Q I rx ry ⟨a1, k, vs, rfl, rep_int r2, h1, by omega, by omega, ?_, fun p hp => res.newL w rfl (t1.rep _) hp⟩
      refine line6 ?_
      rw [t1.length]
      exact Nat.le_trans (Nat.mul_le_mul hl.2.2 (show k.toNat ≤ 1000 by omega)) (by decide)
    · exact res.elim
  · exact res.elim
theorem od_fdiv : OpR X (binaryOp .FloorDiv) (rD2 X.K S fdivD) := by
  intro pins s σ H x y v u Q I rx ry h
  obtain ⟨q, F, d, e, w, r1, r2, res⟩ := h
  unfold fdivD at res
  split at res
  · split at res
    · rename_i hl
      exact op_fdivN pins s σ H x y v u Q I rx ry ⟨_, _, rep_int r1, rep_int r2, hl, res.same w rfl (.int _)⟩
    · split at res
      · rename_i i j _ hl
        refine op_fdivW pins s σ H x y v u Q I rx ry ⟨_, _, rep_int r1, rep_int r2, hl, res.same w (by rw [Int.fdiv_eq_ediv_of_nonneg i (by omega)]) (.int _)⟩
      · exact res.elim
  · exact res.elim
theorem od_mod : OpR X (binaryOp .Mod) (rD2 X.K S modD) := op_imp op_modN fun x y H Q h => by
  obtain ⟨q, F, d, e, w, r1, r2, res⟩ := h
  unfold modD at res
  split at res
  · split at res
    · rename_i hl
      exact ⟨_, _, rep_int r1, rep_int r2, hl, res.same w rfl (.int _)⟩
    · exact res.elim
  · exact res.elim
theorem od_pow : OpR X (binaryOp .Pow) (rD2 X.K S powD) := op_imp op_pow fun x y H Q h => by
  obtain ⟨q, F, d, e, w, r1, r2, res⟩ := h
  unfold powD at res
  split at res
  · split at res
    · rename_i hl
      exact ⟨_, _, rep_int r1, rep_int r2, hl, res.same w rfl (.int _)⟩
    · exact res.elim
  · exact res.elim
theorem ud_neg : UnR X (unaryOp .USub) (rD1 X.K S negD) := fun pins s σ H x v Q I rx h => un_neg pins s σ H x v Q I rx (by
  obtain ⟨q, F, d, w, r1, res⟩ := h
  unfold negD at res
  split at res
  · exact ⟨_, rep_int r1, res.same w rfl (.int _)⟩
  · exact res.elim)
theorem od_lt : OpR X (compareOp .Lt) (rD2 X.K S ltD) := op_imp op_lt fun x y H Q h => by
  obtain ⟨q, F, d, e, w, r1, r2, res⟩ := h
  unfold ltD at res
  split at res
  · exact ⟨_, _, rep_int r1, rep_int r2, res.same w rfl (.bl _)⟩
  · exact res.elim
theorem od_le : OpR X (compareOp .LtE) (rD2 X.K S leD) := op_imp op_le fun x y H Q h => by
  obtain ⟨q, F, d, e, w, r1, r2, res⟩ := h
  unfold leD at res
  split at res
  · exact ⟨_, _, rep_int r1, rep_int r2, res.same w rfl (.bl _)⟩
  · exact res.elim
theorem od_gt : OpR X (compareOp .Gt) (rD2 X.K S gtD) := op_imp op_gt fun x y H Q h => by
  obtain ⟨q, F, d, e, w, r1, r2, res⟩ := h
  unfold gtD at res
  split at res
  · exact ⟨_, _, rep_int r1, rep_int r2, res.same w rfl (.bl _)⟩
  · exact res.elim
theorem od_ge : OpR X (compareOp .GtE) (rD2 X.K S geD) := op_imp op_ge fun x y H Q h => by
  obtain ⟨q, F, d, e, w, r1, r2, res⟩ := h
  unfold geD at res
  split at res
  · exact ⟨_, _, rep_int r1, rep_int r2, res.same w rfl (.bl _)⟩
  · exact res.elim
theorem od_eq (hu : X.A.units + 64 < cLine) : OpR X (compareOp .Eq) (rD2 X.K S eqD) := op_imp (op_eqD hu) fun x y H Q h => by
  obtain ⟨q, F, d, e, w, r1, r2, res⟩ := h
  unfold eqD at res
  split at res
  · rename_i a b h1 h2
    split at res
    · rename_i hl
      exact ⟨a, b, r1.py w h1, r2.py w h2, hl.1, hl.2, res.same w rfl (.bl _)⟩
    · exact res.elim
  · exact res.elim
theorem od_ne (hu : X.A.units + 64 < cLine) : OpR X (compareOp .NotEq) (rD2 X.K S neD) := op_imp (op_neD hu) fun x y H Q h => by
  obtain ⟨q, F, d, e, w, r1, r2, res⟩ := h
  unfold neD at res
  split at res
  · rename_i a b h1 h2
    split at res
    · rename_i hl
      exact ⟨a, b, r1.py w h1, r2.py w h2, hl.1, hl.2, res.same w rfl (.bl _)⟩
    · exact res.elim
  · exact res.elim
theorem allflat (ns : List Int) : (ns.map V.int).all flatV = true := by
  rw [List.all_eq_true]
  intro x hx
  obtain ⟨i, _, rfl⟩ := List.mem_map.mp hx
  rfl
theorem in_of {d e : D} {z : D} {K : PySem.W.Frag} {F H : Hp} {q : PenS} {x y : V} (w : Wf S q F H) (r1 : Br K S F H d x) (r2 : Br K S F H e y) (h : inD d e = some z) :
    ∃ (i : Int) (p : Addr) (ns : List Int), x = .int i ∧ y = .ref p ∧ (SqL K H p (ns.map V.int) ∨ SqT K H p (ns.map V.int)) ∧ z = .bl (decide (i ∈ ns)) := by
  unfold inD at h
  split at h
  · rename_i i xs
    obtain ⟨p, vs, rfl, h1, t1⟩ := r2.tup w
    obtain ⟨ns, h2, h3⟩ := Option.map_eq_some_iff.mp h
    obtain ⟨_, e2⟩ := flat_of h2 t1
    subst e2
    exact ⟨i, p, ns, rep_int r1, rfl, .inr h1.sq, h3.symm⟩
  · rename_i i xs
    obtain ⟨p, vs, rfl, h1, t1⟩ := r2.seq w
    obtain ⟨ns, h2, h3⟩ := Option.map_eq_some_iff.mp h
    obtain ⟨_, e2⟩ := flat_of h2 t1
    subst e2
    exact ⟨i, p, ns, rep_int r1, rfl, .inl (SqL.of h1), h3.symm⟩
  · cases h
theorem od_in : OpR X (compareOp .In) (rD2 X.K S inD) := op_imp op_in_seq fun x y H Q h => by
  obtain ⟨q, F, d, e, w, r1, r2, res⟩ := h
  cases hz : inD d e with
  | none => rw [hz] at res; exact res.elim
  | some z =>
    obtain ⟨i, p, ns, rfl, rfl, h1, rfl⟩ := in_of w r1 r2 hz
    refine ⟨p, _, rfl, h1, rfl, allflat ns, ?_⟩
    rw [inV_ints]
    exact res.same w hz (.bl _)
theorem od_notIn : OpR X (compareOp .NotIn) (rD2 X.K S notInD) := op_imp op_notIn_seq fun x y H Q h => by
  obtain ⟨q, F, d, e, w, r1, r2, res⟩ := h
  unfold notInD at res
  cases hz : inD d e with
  | none => rw [hz] at res; exact res.elim
  | some z =>
    rw [hz] at res
    obtain ⟨i, p, ns, rfl, rfl, h1, rfl⟩ := in_of w r1 r2 hz
    refine ⟨p, _, rfl, h1, rfl, allflat ns, ?_⟩
    rw [inV_ints]
    exact res.same w rfl (.bl _)
theorem nonD_v {K : PySem.W.Frag} {F H : Hp} {d : D} {v : V} (b : Br K S F H d v) : isNonD d = some (.bl (decide (v = .non))) ∧ notNonD d = some (.bl (!decide (v = .non))) := by
  cases b with
  | rep r => cases r <;> exact ⟨rfl, rfl⟩
  | lst h r => exact ⟨rfl, rfl⟩
  | dct h k r => exact ⟨rfl, rfl⟩
theorem de_isN {C : Fx} {W : WX} {g : DEnv → M D} {a : Expr} {j : Nat} {pos' pos : Pos} (ha : PE X a (tEb X.K C W g)) : PE X (.Compare a [.Is] [.Constant .none j pos'] pos) (tE X.K C W (g1 isNonD g)) :=
  pe_imp (pe_cmp (pc_isN ha)) fun σ H Q h => by
    obtain ⟨ρ, q, F, s, h⟩ := h
    refine ⟨ρ, q, F, s, Post.seq h fun d x q1 F1 H1 e1 w1 r1 h1 => ?_⟩
    exact Res.same w1 h1.lift (nonD_v r1).1 (.bl _)
theorem de_notN {C : Fx} {W : WX} {g : DEnv → M D} {a : Expr} {j : Nat} {pos' pos : Pos} (ha : PE X a (tEb X.K C W g)) : PE X (.Compare a [.IsNot] [.Constant .none j pos'] pos) (tE X.K C W (g1 notNonD g)) :=
  pe_imp (pe_cmp (pc_notN ha)) fun σ H Q h => by
    obtain ⟨ρ, q, F, s, h⟩ := h
    refine ⟨ρ, q, F, s, Post.seq h fun d x q1 F1 H1 e1 w1 r1 h1 => ?_⟩
    exact Res.same w1 h1.lift (nonD_v r1).2 (.bl _)

/-! ### tests -/
theorem dt_val {C : Fx} {W : WX} {g : DEnv → M D} {e : Expr} (h : PE X e (tE X.K C W g)) (he : ∀ whole, isTrue e X.env whole = (do let v ← whole; standAt e.pos; holding [v] (truthy v)) := by intro _; rfl) : PT X e (tT X.K C W (g1 boolD g)) :=
  pt_imp (pt_val h he) fun σ H Q h => by
    obtain ⟨ρ, q, F, s, h⟩ := h
    refine ⟨ρ, q, F, s, Post.seq h fun d x q1 F1 H1 e1 w1 r1 h1 => ?_⟩
    have h2 := h1.lift
    cases d with
    | bl b =>
      cases r1
      exact ⟨b, rfl, h2 b F1 H1 .refl w1 rfl⟩
    | _ => exact h2.elim
theorem tru_of {K : PySem.W.Frag} {F H : Hp} {q : PenS} {d : D} {v : V} {b : Bool} (w : Wf S q F H) (r : Br K S F H d v) (h : truD d = some b) : TruV K v H b := by
  unfold truD at h
  split at h
  · cases h
    cases r with
    | rep r => cases r; rfl
  · cases h
    cases r with
    | rep r => cases r; rfl
  · cases h
    cases r with
    | rep r => cases r; rfl
  · rename_i xs
    cases h
    obtain ⟨a, vs, rfl, h1, t1⟩ := r.seq w
    refine .inl ⟨vs, SqL.of h1, ?_⟩
    cases t1 <;> rfl
  · rename_i xs
    cases h
    obtain ⟨a, vs, rfl, h1, t1⟩ := r.tup w
    refine .inr (.inl ⟨vs, h1.sq, ?_⟩)
    cases t1 <;> rfl
  · cases h
theorem dt_tru {C : Fx} {W : WX} {g : DEnv → M D} {e : Expr} (h : PE X e (tEb X.K C W g)) (he : ∀ whole, isTrue e X.env whole = (do let v ← whole; standAt e.pos; holding [v] (truthy v)) := by intro _; rfl) : PT X e (tT X.K C W (g1 truD g)) :=
  pt_imp (pt_truth h he) fun σ H Q h => by
    obtain ⟨ρ, q, F, s, h⟩ := h
    refine ⟨ρ, q, F, s, Post.seq h fun d x q1 F1 H1 e1 w1 r1 h1 => ?_⟩
    have h2 := h1.lift
    cases e : truD d with
    | none => rw [e] at h2; exact h2.elim
    | some b =>
      rw [e] at h2
      exact ⟨b, tru_of w1 r1 e, h2 b F1 H1 .refl w1 rfl⟩
theorem dt_cmp {C : Fx} {W : WX} {op : CmpOp} {f : D → D → Option D} {ga gb : DEnv → M D} {a b : Expr} {pos : Pos} (ho : OpR X (compareOp op) (rD2 X.K C.S f)) (ha : PE X a (tEb X.K C W ga)) (hb : PE X b (tEb X.K C W gb)) (hm : behindInMarks op b = false) :
    PT X (.Compare a [op] [b] pos) (tT X.K C W (g1 boolD (g2 f ga gb))) :=
  pt_imp (pt_cmpR ho ha hb hm) fun σ H Q h => by
    refine t_op2 (X := X) (C := C) (W := W) (Q := fun x H' => ∃ k, x = .bl k ∧ Q k H') ?_
    obtain ⟨ρ, q, F, s, h⟩ := h
    refine ⟨ρ, q, F, s, Post.seq h fun d x q1 F1 H1 e1 w1 r1 h1 => ?_⟩
    have h2 := h1.lift
    cases d with
    | bl b =>
      cases r1
      exact ⟨b, rfl, h2 b F1 H1 .refl w1 rfl⟩
    | _ => exact h2.elim
theorem dt_isN {C : Fx} {W : WX} {g : DEnv → M D} {a : Expr} {j : Nat} {pos' pos : Pos} (ha : PE X a (tEb X.K C W g)) : PT X (.Compare a [.Is] [.Constant .none j pos'] pos) (tT X.K C W (g1 boolD (g1 isNonD g))) :=
  pt_imp (pt_cmp (pc_isN ha)) fun σ H Q h => by
    obtain ⟨ρ, q, F, s, h⟩ := h
    refine ⟨ρ, q, F, s, Post.seq (Post.seq (R1 := RE X.K C.S) (Q' := fun x H' => ∃ c, x = .bl c ∧ Q c H') h fun d x q1 F1 H1 e1 w1 r1 h1 => ?_) fun d x q1 F1 H1 e1 w1 r1 h1 => ?_⟩
    · have h2 := h1.lift
      cases d with
      | bl b =>
        cases r1
        exact ⟨b, rfl, h2 b F1 H1 .refl w1 rfl⟩
      | _ => exact h2.elim
    · exact Res.same w1 h1.lift (nonD_v r1).1 (.bl _)
theorem dt_notN {C : Fx} {W : WX} {g : DEnv → M D} {a : Expr} {j : Nat} {pos' pos : Pos} (ha : PE X a (tEb X.K C W g)) : PT X (.Compare a [.IsNot] [.Constant .none j pos'] pos) (tT X.K C W (g1 boolD (g1 notNonD g))) :=
  pt_imp (pt_cmp (pc_notN ha)) fun σ H Q h => by
    obtain ⟨ρ, q, F, s, h⟩ := h
    refine ⟨ρ, q, F, s, Post.seq (Post.seq (R1 := RE X.K C.S) (Q' := fun x H' => ∃ c, x = .bl c ∧ Q c H') h fun d x q1 F1 H1 e1 w1 r1 h1 => ?_) fun d x q1 F1 H1 e1 w1 r1 h1 => ?_⟩
    · have h2 := h1.lift
      cases d with
      | bl b =>
        cases r1
        exact ⟨b, rfl, h2 b F1 H1 .refl w1 rfl⟩
      | _ => exact h2.elim
    · exact Res.same w1 h1.lift (nonD_v r1).2 (.bl _)
theorem dt_not {C : Fx} {W : WX} {g : DEnv → M Bool} {a : Expr} {pos : Pos} (ha : PT X a (tT X.K C W g)) : PT X (.UnaryOp .Not a pos) (tT X.K C W (gNot g)) := pt_imp (pt_not ha) fun σ H Q h => by
  obtain ⟨ρ, q, F, s, h⟩ := h
  refine ⟨ρ, q, F, s, Post.seq h fun d x q1 F1 H1 e1 w1 r1 h1 => ?_⟩
  subst r1
  exact h1.lift _ F1 H1 .refl w1 rfl
/-- a part of a chain of and, or -/
theorem dw_and1 {C : Fx} {W : WX} {g : DEnv → M Bool} {a : Expr} {pos : Pos} (ha : PT X a (tT X.K C W g)) : PW X (.BoolOp .And [a] pos) (tT X.K C W g) := pw_and1 ha
theorem dw_or1 {C : Fx} {W : WX} {g : DEnv → M Bool} {a : Expr} {pos : Pos} (ha : PT X a (tT X.K C W g)) : PW X (.BoolOp .Or [a] pos) (tT X.K C W g) := pw_or1 ha
theorem dw_and {C : Fx} {W : WX} {g u : DEnv → M Bool} {a b : Expr} {rest : List Expr} {pos : Pos} (ha : PT X a (tT X.K C W g)) (hb : PW X (.BoolOp .And (b :: rest) pos) (tT X.K C W u)) : PW X (.BoolOp .And (a :: b :: rest) pos) (tT X.K C W (gAnd g u)) :=
  pw_imp (pw_and ha hb) fun σ H Q h => by
    obtain ⟨ρ, q, F, s, h⟩ := h
    refine ⟨ρ, q, F, s, Post.seq h fun d x q1 F1 H1 e1 w1 r1 h1 => ?_⟩
    subst r1
    cases x with
    | true => exact ⟨ρ, q1, F1, s.step e1 w1, h1⟩
    | false => exact h1 false F1 H1 .refl w1 rfl
theorem dw_or {C : Fx} {W : WX} {g u : DEnv → M Bool} {a b : Expr} {rest : List Expr} {pos : Pos} (ha : PT X a (tT X.K C W g)) (hb : PW X (.BoolOp .Or (b :: rest) pos) (tT X.K C W u)) : PW X (.BoolOp .Or (a :: b :: rest) pos) (tT X.K C W (gOr g u)) :=
  pw_imp (pw_or ha hb) fun σ H Q h => by
    obtain ⟨ρ, q, F, s, h⟩ := h
    refine ⟨ρ, q, F, s, Post.seq h fun d x q1 F1 H1 e1 w1 r1 h1 => ?_⟩
    subst r1
    cases x with
    | false => exact ⟨ρ, q1, F1, s.step e1 w1, h1⟩
    | true => exact h1 true F1 H1 .refl w1 rfl
theorem de_if {C : Fx} {W : WX} {t : DEnv → M Bool} {ga gb : DEnv → M D} {c a b : Expr} {pos : Pos} (hc : PT X c (tT X.K C W t)) (ha : PE X a (tE X.K C W ga)) (hb : PE X b (tE X.K C W gb)) : PE X (.IfExp c a b pos) (tE X.K C W (gIf t ga gb)) :=
  pe_imp (pe_ifExp hc ha hb) fun σ H Q h => by
    obtain ⟨ρ, q, F, s, h⟩ := h
    refine ⟨ρ, q, F, s, Post.seq h fun d x q1 F1 H1 e1 w1 r1 h1 => ?_⟩
    subst r1
    cases x with
    | true => exact ⟨ρ, q1, F1, s.step e1 w1, h1⟩
    | false => exact ⟨ρ, q1, F1, s.step e1 w1, h1⟩
end
end Dl
namespace Dl
open PySem PySem.Spec PyProof.Rows L2

/-! ### new lists -/
abbrev RN (K : PySem.W.Frag) (S : Sx) (H : Hp) : Hp → Hp → D → V → Prop := fun F' H' d v => ∃ a xs vs, d = .lst xs ∧ v = .ref a ∧ H a = none ∧ F' a = none ∧ H' a = some (.lst vs) ∧ RepL K S F' xs vs
abbrev tN (K : PySem.W.Frag) (C : Fx) (W : WX) (g : DEnv → M D) : TE := fun σ H Q => tG K C W (RN K C.S H) g σ H Q
theorem fz_step {S : Sx} {F H F' H' : Hp} {q : PenS} {a : Addr} {o : HO} (e : Ev S F H F' H') (w : Wf S q F' H') (h0 : H a = none) (f0 : F' a = none) (ha : H' a = some o) (np : a ≠ S.p) (no : ∀ ps, o ≠ .tbl ps := by nofun) : Ev S F H (upd F' a o) H' ∧ Wf S q (upd F' a o) H' := by
  refine ⟨⟨fun b u h => ?_, fun b h n => ?_, e.h, e.k⟩, ⟨fun b u h => ?_, ?_, w.pen, w.cel, w.tab, fun b ps z => ?_⟩⟩
  · rw [upd_ne (fun z => by
      have := e.f b u h
      rw [z, f0] at this
      cases this)]
    exact e.f b u h
  · rw [upd_ne (fun z => n (by rw [z]; exact h0))]
    exact e.n b h n
  · by_cases hb : b = a
    · subst hb
      rw [upd_same] at h
      cases h
      exact ha
    · rw [upd_ne hb] at h
      exact w.sub b u h
  · rw [upd_ne (Ne.symm np)]
    exact w.fp
  · by_cases hb : b = a
    · rw [hb, upd_same] at z
      exact no ps (Option.some.inj z)
    · rw [upd_ne hb] at z
      exact w.ft b ps z
section
variable {X : Cx} {C : Fx} {W : WX}
/-- .. may stay -/
theorem PE.de {e : Expr} {g : DEnv → M D} (h : PE X e (tN X.K C W g)) : PE X e (tE X.K C W g) := pe_imp h fun σ H Q h => by
  obtain ⟨ρ, q, F, s, h⟩ := h
  refine ⟨ρ, q, F, s, ?_⟩
  cases hr : g ρ q with
  | ok d q1 =>
    rw [hr] at h
    rintro v F' H' e w ⟨a, xs, vs, rfl, rfl, h0, f0, ha, r⟩
    have np : a ≠ C.S.p := fun z => by
      have := s.wf.pen
      rw [← z, h0] at this
      cases this
    obtain ⟨e2, w2⟩ := fz_step e w h0 f0 ha np
    refine h _ _ H' e2 w2 (.lst upd_same (r.up fun b o hb => ?_))
    rw [upd_ne (fun z => by rw [z, f0] at hb; cases hb)]
    exact hb
  | exc c fs q1 => rw [hr] at h; exact h
  | bad => rw [hr] at h; exact h

/-! ### argument lists, displays -/
theorem da_nil : PA X [] (tA X.K C W mNil) := pa_imp pa_nil fun σ H Q h => by
  obtain ⟨ρ, q, F, s, h⟩ := h
  exact h [] F H .refl s.wf .nil
theorem dab_nil : PA X [] (tAb X.K C W mNil) := pa_imp pa_nil fun σ H Q h => by
  obtain ⟨ρ, q, F, s, h⟩ := h
  exact h [] F H .refl s.wf .nil
theorem da_cons {e : Expr} {es : List Expr} {g : DEnv → M D} {gs : DEnv → M (List D)} (h1 : PE X e (tE X.K C W g)) (h2 : PA X es (tA X.K C W gs)) (hs : starEach (e :: es) X.env = (false, eval e X.env) :: starEach es X.env := by rfl) : PA X (e :: es) (tA X.K C W (mCons g gs)) :=
  pa_imp (pa_cons h1 h2 hs) fun σ H Q h => by
    obtain ⟨ρ, q, F, s, h⟩ := h
    refine ⟨ρ, q, F, s, Post.seq h fun d x q1 F1 H1 e1 w1 r1 h1 => ?_⟩
    refine ⟨ρ, q1, F1, s.step e1 w1, Post.seq h1 fun ds xs q2 F2 H2 e2 w2 r2 h2 => ?_⟩
    exact h2.lift _ F2 H2 .refl w2 (.cons (r1.up e2.f) r2)
theorem dab_cons {e : Expr} {es : List Expr} {g : DEnv → M D} {gs : DEnv → M (List D)} (h1 : PE X e (tEb X.K C W g)) (h2 : PA X es (tAb X.K C W gs)) (hs : starEach (e :: es) X.env = (false, eval e X.env) :: starEach es X.env := by rfl) : PA X (e :: es) (tAb X.K C W (mCons g gs)) :=
  pa_imp (pa_cons h1 h2 hs) fun σ H Q h => by
    obtain ⟨ρ, q, F, s, h⟩ := h
    refine ⟨ρ, q, F, s, Post.seq h fun d x q1 F1 H1 e1 w1 r1 h1 => ?_⟩
    refine ⟨ρ, q1, F1, s.step e1 w1, Post.seq h1 fun ds xs q2 F2 H2 e2 w2 r2 h2 => ?_⟩
    exact h2.lift _ F2 H2 .refl w2 (.cons (r1.up w1 e2) r2)
theorem de_tup {es : List Expr} {k : Nat} {pos : Pos} {gs : DEnv → M (List D)} (h : PA X es (tA X.K C W gs)) : PE X (.Tuple es k pos) (tE X.K C W (mTup gs)) := pe_imp (pe_tup h) fun σ H Q h => by
  obtain ⟨ρ, q, F, s, h⟩ := h
  refine ⟨ρ, q, F, s, Post.seq h fun ds xs q1 F1 H1 e1 w1 r1 h1 => ?_⟩
  have h2 := h1.lift
  dsimp only at h2
  split at h2
  · rename_i hl
    exact ⟨line5 (by rw [r1.length]; exact hl), fun p hp => h2 _ _ _ (w1.new hp _).1 (w1.new hp _).2 (tup_new w1 hp r1)⟩
  · exact h2.elim
theorem dn_lst {es : List Expr} {pos : Pos} {gs : DEnv → M (List D)} (h : PA X es (tA X.K C W gs)) : PE X (.List es pos) (tN X.K C W (mLst gs)) := pe_imp (pe_lst h) fun σ H Q h => by
  obtain ⟨ρ, q, F, s, h⟩ := h
  refine ⟨ρ, q, F, s, Post.seq h fun ds xs q1 F1 H1 e1 w1 r1 h1 => ?_⟩
  have h2 := h1.lift
  dsimp only at h2
  split at h2
  · rename_i hl
    refine ⟨line5 (by rw [r1.length]; exact hl), fun p hp => ?_⟩
    obtain ⟨e2, w2, f2⟩ := w1.made hp (.lst xs)
    refine h2 _ _ _ e2 w2 ⟨p, ds, xs, rfl, rfl, ?_, f2, upd_same, r1⟩
    cases e0 : H p with
    | none => rfl
    | some o =>
      have := e1.k p (by rw [e0]; simp)
      exact absurd hp this
  · exact h2.elim

/-! ### built-in calls on values -/
def rDN (K : PySem.W.Frag) (S : Sx) (f : List D → Option D) : List V → Hp → VK → Prop := fun xs H Q => ∃ q F ds, Wf S q F H ∧ BrL K S F H ds xs ∧ Res S q F H (RE K S) (f ds) Q
def rNN (K : PySem.W.Frag) (S : Sx) (f : List D → Option D) : List V → Hp → VK → Prop := fun xs H Q => ∃ q F ds, Wf S q F H ∧ BrL K S F H ds xs ∧ Res S q F H (RN K S H) (f ds) Q
theorem t_args {f : List D → Option D} {gs : DEnv → M (List D)} {σ : L2.St} {H : Hp} {Q : VK} (h : tE X.K C W (g1 f gs) σ H Q) : tCB (rDN X.K C.S f) (tAb X.K C W gs) σ H Q := by
  obtain ⟨ρ, q, F, s, h⟩ := h
  refine ⟨ρ, q, F, s, Post.seq h fun ds xs q1 F1 H1 e1 w1 r1 h1 => ?_⟩
  exact ⟨q1, F1, ds, w1, r1, h1.lift⟩
theorem t_argsN {f : List D → Option D} {gs : DEnv → M (List D)} {σ : L2.St} {H : Hp} {Q : VK} (h : tN X.K C W (g1 f gs) σ H Q) : tCB (rNN X.K C.S f) (tAb X.K C W gs) σ H Q := by
  obtain ⟨ρ, q, F, s, h⟩ := h
  refine ⟨ρ, q, F, s, Post.seq h fun ds xs q1 F1 H1 e1 w1 r1 h1 => ?_⟩
  refine ⟨q1, F1, ds, w1, r1, ?_⟩
  have h2 := h1.lift
  cases ho : f ds with
  | none => rw [ho] at h2; exact h2.elim
  | some z =>
    rw [ho] at h2
    rintro v F' H' e w ⟨a, ys, vs, rfl, rfl, h0, f0, ha, r⟩
    refine h2 _ F' H' e w ⟨a, ys, vs, rfl, rfl, ?_, f0, ha, r⟩
    cases e0 : H a with
    | none => rfl
    | some o => exact absurd h0 (e1.k a (by rw [e0]; simp))
theorem de_callB {x : Str} {id : String} {f : List D → Option D} {gs : DEnv → M (List D)} {e : Expr} {es : List Expr} {p pos : Pos} (hc : CallR X (.builtin id) (rDN X.K C.S f)) (hm : X.mg x = none) (hv : bootBuiltins x = some (.builtin id)) (ha : PA X (e :: es) (tAb X.K C W gs)) (hg : Gl X x := by rfl)
    (hn : x ≠ "__name__" := by decide) (hdb : (x == ("__debug__" : Str)) = false := by decide) (he : starEach (e :: es) X.env = (false, eval e X.env) :: starEach es X.env := by rfl) (hpl : (backTo pos (starEach es X.env)).any (·.1) = false := by rfl) :
    PE X (.Call (.Name x p) (e :: es) [] pos) (tE X.K C W (g1 f gs)) := pe_imp (pe_callB hc hg hm hv ha hn hdb he hpl) fun _ _ _ => t_args
theorem de_callTy {x : Str} {id : String} {f : List D → Option D} {gs : DEnv → M (List D)} {e : Expr} {es : List Expr} {p pos : Pos} (hc : CallR X (.type id) (rDN X.K C.S f)) (hm : X.mg x = none) (hv : bootBuiltins x = some (.type id)) (ha : PA X (e :: es) (tAb X.K C W gs)) (hg : Gl X x := by rfl)
    (hn : x ≠ "__name__" := by decide) (hdb : (x == ("__debug__" : Str)) = false := by decide) (he : starEach (e :: es) X.env = (false, eval e X.env) :: starEach es X.env := by rfl) (hpl : (backTo pos (starEach es X.env)).any (·.1) = false := by rfl) :
    PE X (.Call (.Name x p) (e :: es) [] pos) (tE X.K C W (g1 f gs)) := pe_imp (pe_callTy hc hg hm hv ha hn hdb he hpl) fun _ _ _ => t_args
theorem dn_callTy {x : Str} {id : String} {f : List D → Option D} {gs : DEnv → M (List D)} {e : Expr} {es : List Expr} {p pos : Pos} (hc : CallR X (.type id) (rNN X.K C.S f)) (hm : X.mg x = none) (hv : bootBuiltins x = some (.type id)) (ha : PA X (e :: es) (tAb X.K C W gs)) (hg : Gl X x := by rfl)
    (hn : x ≠ "__name__" := by decide) (hdb : (x == ("__debug__" : Str)) = false := by decide) (he : starEach (e :: es) X.env = (false, eval e X.env) :: starEach es X.env := by rfl) (hpl : (backTo pos (starEach es X.env)).any (·.1) = false := by rfl) :
    PE X (.Call (.Name x p) (e :: es) [] pos) (tN X.K C W (g1 f gs)) := pe_imp (pe_callTy hc hg hm hv ha hn hdb he hpl) fun _ _ _ => t_argsN
theorem dn_callB {x : Str} {id : String} {f : List D → Option D} {gs : DEnv → M (List D)} {e : Expr} {es : List Expr} {p pos : Pos} (hc : CallR X (.builtin id) (rNN X.K C.S f)) (hm : X.mg x = none) (hv : bootBuiltins x = some (.builtin id)) (ha : PA X (e :: es) (tAb X.K C W gs)) (hg : Gl X x := by rfl)
    (hn : x ≠ "__name__" := by decide) (hdb : (x == ("__debug__" : Str)) = false := by decide) (he : starEach (e :: es) X.env = (false, eval e X.env) :: starEach es X.env := by rfl) (hpl : (backTo pos (starEach es X.env)).any (·.1) = false := by rfl) :
    PE X (.Call (.Name x p) (e :: es) [] pos) (tN X.K C W (g1 f gs)) := pe_imp (pe_callB hc hg hm hv ha hn hdb he hpl) fun _ _ _ => t_argsN
end
theorem BrL.inv1 {K : PySem.W.Frag} {S : Sx} {F H : Hp} {d : D} {vs : List V} (h : BrL K S F H [d] vs) : ∃ v, vs = [v] ∧ Br K S F H d v := by
  cases h with
  | cons a t => cases t; exact ⟨_, rfl, a⟩
theorem BrL.inv2 {K : PySem.W.Frag} {S : Sx} {F H : Hp} {d e : D} {vs : List V} (h : BrL K S F H [d, e] vs) : ∃ v w, vs = [v, w] ∧ Br K S F H d v ∧ Br K S F H e w := by
  cases h with
  | cons a t =>
    cases t with
    | cons b t => cases t; exact ⟨_, _, rfl, a, b⟩
def lenD : List D → Option D
  | [.tup xs] => some (.int xs.length)
  | [.lst xs] => some (.int xs.length)
  | _ => none
def tupleD : List D → Option D
  | [.tup xs] => some (.tup xs)
  | [.lst xs] => some (.tup xs)
  | _ => none
def listD : List D → Option D
  | [.tup xs] => some (.lst xs)
  | [.lst xs] => some (.lst xs)
  | _ => none
def absD : List D → Option D
  | [.int i] => some (.int (if i < 0 then -i else i))
  | _ => none
def intD : List D → Option D
  | [.int i] => some (.int i)
  | [.bl b] => some (.int (if b then 1 else 0))
  | _ => none
def gcdD : List D → Option D
  | [.int a, .int b] => some (.int ((Nat.gcd a.natAbs b.natAbs : Nat) : Int))
  | _ => none
def intsD (xs : List D) : Option (List Int) := xs.mapM iD
def maxI : List Int → Int
  | [] => 0
  | a :: r => r.foldl (fun m x => if x > m then x else m) a
def minI : List Int → Int
  | [] => 0
  | a :: r => r.foldl (fun m x => if x < m then x else m) a
def maxD : List D → Option D
  | [.lst xs] => (intsD xs).bind fun ns => if ns = [] then none else some (.int (maxI ns))
  | _ => none
def minD : List D → Option D
  | [.lst xs] => (intsD xs).bind fun ns => if ns = [] then none else some (.int (minI ns))
  | _ => none
def max2D : List D → Option D
  | [.int i, .int j] => some (.int (if j > i then j else i))
  | _ => none
def min2D : List D → Option D
  | [.int i, .int j] => some (.int (if j < i then j else i))
  | _ => none
def sumD : List D → Option D
  | [.lst xs] => (intsD xs).map fun ns => .int ns.sum
  | _ => none
def bolsD (xs : List D) : Option (List Bool) := xs.mapM boolD
def allD : List D → Option D
  | [.lst xs] => (bolsD xs).map fun bs => .bl (bs.all id)
  | _ => none
def anyD : List D → Option D
  | [.lst xs] => (bolsD xs).map fun bs => .bl (bs.any id)
  | _ => none
def clsD : D → Option String
  | .non => some "NoneType"
  | .bl _ => some "bool"
  | .int _ => some "int"
  | .str _ => some "str"
  | .tup _ => some "tuple"
  | .lst _ => some "list"
  | _ => none
def tyD : D → Option String
  | .ty n => some n
  | _ => none
def tysD (xs : List D) : Option (List String) := xs.mapM tyD
def okTy (t : String) : Bool := ["bool", "int", "str", "tuple", "list"].contains t
def kit (a b : String) : Bool := a == b || (a == "bool" && b == "int")
def isiD : List D → Option D
  | [d, .ty n] => (clsD d).bind fun c => if okTy n = true then some (.bl (kit c n)) else none
  | [d, .tup xs] => (clsD d).bind fun c => (tysD xs).bind fun ns => if ns.all okTy = true then some (.bl (ns.any (kit c))) else none
  | _ => none
theorem maxI_mem : ∀ {ns : List Int}, ns ≠ [] → maxI ns ∈ ns ∧ ∀ y ∈ ns, y ≤ maxI ns
  | [], h => absurd rfl h
  | a :: r, _ => by
    have key : ∀ (r : List Int) (a : Int), (r.foldl (fun m x => if x > m then x else m) a = a ∨ r.foldl (fun m x => if x > m then x else m) a ∈ r) ∧ a ≤ r.foldl (fun m x => if x > m then x else m) a ∧ ∀ y ∈ r, y ≤ r.foldl (fun m x => if x > m then x else m) a := by
      intro r
      induction r with
      | nil => intro a; exact ⟨.inl rfl, Int.le_refl _, fun y h => nomatch h⟩
      | cons b r ih =>
        intro a
        rw [List.foldl_cons]
        obtain ⟨h1, h2, h3⟩ := ih (if b > a then b else a)
        refine ⟨?_, ?_, fun y hy => ?_⟩
        · rcases h1 with h1 | h1
          · rw [h1]
            split
            · exact .inr (List.mem_cons_self ..)
            · exact .inl rfl
          · exact .inr (List.mem_cons_of_mem _ h1)
        · refine Int.le_trans ?_ h2
          split <;> omega
        · rcases List.mem_cons.mp hy with rfl | hy
          · refine Int.le_trans ?_ h2
            split <;> omega
          · exact h3 y hy
    obtain ⟨h1, h2, h3⟩ := key r a
    refine ⟨?_, fun y hy => ?_⟩
    · rcases h1 with h1 | h1
      · show r.foldl _ a ∈ _
        rw [h1]
        exact List.mem_cons_self ..
      · exact List.mem_cons_of_mem _ h1
    · rcases List.mem_cons.mp hy with rfl | hy
      · exact h2
      · exact h3 y hy
theorem minI_mem : ∀ {ns : List Int}, ns ≠ [] → minI ns ∈ ns ∧ ∀ y ∈ ns, minI ns ≤ y
  | [], h => absurd rfl h
  | a :: r, _ => by
    have key : ∀ (r : List Int) (a : Int), (r.foldl (fun m x => if x < m then x else m) a = a ∨ r.foldl (fun m x => if x < m then x else m) a ∈ r) ∧ r.foldl (fun m x => if x < m then x else m) a ≤ a ∧ ∀ y ∈ r, r.foldl (fun m x => if x < m then x else m) a ≤ y := by
      intro r
      induction r with
      | nil => intro a; exact ⟨.inl rfl, Int.le_refl _, fun y h => nomatch h⟩
      | cons b r ih =>
        intro a
        rw [List.foldl_cons]
        obtain ⟨h1, h2, h3⟩ := ih (if b < a then b else a)
        refine ⟨?_, ?_, fun y hy => ?_⟩
        · rcases h1 with h1 | h1
          · rw [h1]
            split
            · exact .inr (List.mem_cons_self ..)
            · exact .inl rfl
          · exact .inr (List.mem_cons_of_mem _ h1)
        · refine Int.le_trans h2 ?_
          split <;> omega
        · rcases List.mem_cons.mp hy with rfl | hy
          · refine Int.le_trans h2 ?_
            split <;> omega
          · exact h3 y hy
    obtain ⟨h1, h2, h3⟩ := key r a
    refine ⟨?_, fun y hy => ?_⟩
    · rcases h1 with h1 | h1
      · show r.foldl _ a ∈ _
        rw [h1]
        exact List.mem_cons_self ..
      · exact List.mem_cons_of_mem _ h1
    · rcases List.mem_cons.mp hy with rfl | hy
      · exact h2
      · exact h3 y hy
section
variable {X : Cx} {S : Sx}
theorem cd_len : CallR X (.builtin "len") (rDN X.K S lenD) := call_imp call_len_seq fun xs H Q h => by
  obtain ⟨q, F, ds, w, r, res⟩ := h
  unfold lenD at res
  split at res
  · obtain ⟨v, rfl, b⟩ := r.inv1
    obtain ⟨a, vs, rfl, h1, t1⟩ := b.tup w
    exact ⟨a, vs, rfl, .inr h1.sq, by rw [t1.length]; exact res.same w rfl (.int _)⟩
  · obtain ⟨v, rfl, b⟩ := r.inv1
    obtain ⟨a, vs, rfl, h1, t1⟩ := b.seq w
    exact ⟨a, vs, rfl, .inl (SqL.of h1), by rw [t1.length]; exact res.same w rfl (.int _)⟩
  · exact res.elim
theorem cd_tuple : CallR X (.type "tuple") (rDN X.K S tupleD) := call_imp call_tuple_of fun xs H Q h => by
  obtain ⟨q, F, ds, w, r, res⟩ := h
  unfold tupleD at res
  split at res
  · obtain ⟨v, rfl, b⟩ := r.inv1
    obtain ⟨a, vs, rfl, h1, t1⟩ := b.tup w
    refine ⟨a, vs, rfl, .inr ⟨h1.sq, res.same w rfl ?_⟩⟩
    cases b with
    | rep r => exact r
  · obtain ⟨v, rfl, b⟩ := r.inv1
    obtain ⟨a, vs, rfl, h1, t1⟩ := b.seq w
    exact ⟨a, vs, rfl, .inl ⟨SqL.of h1, fun l hl => res.newT w rfl t1 hl⟩⟩
  · exact res.elim
theorem Res.freshL {K : PySem.W.Frag} {F H : Hp} {q : PenS} {xs : List D} {vs : List V} {a : Addr} {o : Option D} {Q : VK} (w : Wf S q F H) (h : Res S q F H (RN K S H) o Q) (e : o = some (.lst xs)) (r : RepL K S F xs vs) (ha : H a = none) : Q (.ref a) (upd H a (.lst vs)) := by
  rw [e] at h
  obtain ⟨e2, w2, f2⟩ := w.made ha (.lst vs)
  exact h _ _ _ e2 w2 ⟨a, xs, vs, rfl, rfl, ha, f2, upd_same, r⟩
theorem cn_list : CallR X (.type "list") (rNN X.K S listD) := call_imp call_list_of fun xs H Q h => by
  obtain ⟨q, F, ds, w, r, res⟩ := h
  unfold listD at res
  split at res
  · obtain ⟨v, rfl, b⟩ := r.inv1
    obtain ⟨a, vs, rfl, h1, t1⟩ := b.tup w
    exact ⟨a, vs, rfl, .inr h1.sq, fun l hl => res.freshL w rfl t1 hl⟩
  · obtain ⟨v, rfl, b⟩ := r.inv1
    obtain ⟨a, vs, rfl, h1, t1⟩ := b.seq w
    exact ⟨a, vs, rfl, .inl (SqL.of h1), fun l hl => res.freshL w rfl t1 hl⟩
  · exact res.elim
theorem cd_abs : CallR X (.builtin "abs") (rDN X.K S absD) := call_imp call_abs fun xs H Q h => by
  obtain ⟨q, F, ds, w, r, res⟩ := h
  unfold absD at res
  split at res
  · obtain ⟨v, rfl, b⟩ := r.inv1
    rw [rep_int b]
    exact ⟨_, rfl, res.same w rfl (.int _)⟩
  · exact res.elim
theorem cd_int : CallR X (.type "int") (rDN X.K S intD) := call_imp call_int1 fun xs H Q h => by
  obtain ⟨q, F, ds, w, r, res⟩ := h
  unfold intD at res
  split at res
  · obtain ⟨v, rfl, b⟩ := r.inv1
    rw [rep_int b]
    exact .inl ⟨_, rfl, res.same w rfl (.int _)⟩
  · obtain ⟨v, rfl, b⟩ := r.inv1
    cases b with
    | rep r =>
      cases r
      exact .inr ⟨_, rfl, res.same w rfl (.int _)⟩
  · exact res.elim
theorem cd_gcd : CallR X (.builtin "math.gcd") (rDN X.K S gcdD) := call_imp cr_gcd fun xs H Q h => by
  obtain ⟨q, F, ds, w, r, res⟩ := h
  unfold gcdD at res
  split at res
  · obtain ⟨v, u, rfl, b, c⟩ := r.inv2
    rw [rep_int b, rep_int c]
    exact ⟨_, _, rfl, res.same w rfl (.int _)⟩
  · exact res.elim
theorem cd_max2 (hc : X.calm = true) : CallR X (.builtin "max") (rDN X.K S max2D) := call_imp (call_max2 hc) fun xs H Q h => by
  obtain ⟨q, F, ds, w, r, res⟩ := h
  unfold max2D at res
  split at res
  · obtain ⟨v, u, rfl, b, c⟩ := r.inv2
    rw [rep_int b, rep_int c]
    exact ⟨_, _, rfl, res.same w rfl (.int _)⟩
  · exact res.elim
theorem cd_min2 (hc : X.calm = true) : CallR X (.builtin "min") (rDN X.K S min2D) := call_imp (call_min2 hc) fun xs H Q h => by
  obtain ⟨q, F, ds, w, r, res⟩ := h
  unfold min2D at res
  split at res
  · obtain ⟨v, u, rfl, b, c⟩ := r.inv2
    rw [rep_int b, rep_int c]
    exact ⟨_, _, rfl, res.same w rfl (.int _)⟩
  · exact res.elim
theorem ints_at {K : PySem.W.Frag} {F H : Hp} {q : PenS} {xs : List D} {ns : List Int} {v : V} (w : Wf S q F H) (b : Br K S F H (.lst xs) v) (h : intsD xs = some ns) : ∃ a, v = .ref a ∧ SqL K H a (ns.map V.int) := by
  obtain ⟨a, vs, rfl, h1, t1⟩ := b.seq w
  obtain ⟨_, e2⟩ := flat_of h t1
  subst e2
  exact ⟨a, rfl, SqL.of h1⟩
theorem cd_max (hc : X.calm = true) : CallR X (.builtin "max") (rDN X.K S maxD) := call_imp (cr_max hc) fun xs H Q h => by
  obtain ⟨q, F, ds, w, r, res⟩ := h
  unfold maxD at res
  split at res
  · rename_i ys
    obtain ⟨v, rfl, b⟩ := r.inv1
    cases hi : intsD ys with
    | none => rw [hi] at res; exact res.elim
    | some ns =>
      rw [hi] at res
      by_cases hn : ns = []
      · subst hn
        exact res.elim
      · obtain ⟨a, rfl, h1⟩ := ints_at w b hi
        obtain ⟨m1, m2⟩ := maxI_mem hn
        refine ⟨a, ns, rfl, h1, List.length_pos_iff.mpr hn, fun m hm ha => ?_⟩
        have e : m = maxI ns := Int.le_antisymm (m2 m hm) (ha _ m1)
        subst e
        exact Res.same w res (show (if ns = [] then none else some (D.int (maxI ns))) = _ from if_neg hn) (.int _)
  · exact res.elim
theorem cd_min (hc : X.calm = true) : CallR X (.builtin "min") (rDN X.K S minD) := call_imp (cr_min hc) fun xs H Q h => by
  obtain ⟨q, F, ds, w, r, res⟩ := h
  unfold minD at res
  split at res
  · rename_i ys
    obtain ⟨v, rfl, b⟩ := r.inv1
    cases hi : intsD ys with
    | none => rw [hi] at res; exact res.elim
    | some ns =>
      rw [hi] at res
      by_cases hn : ns = []
      · subst hn
        exact res.elim
      · obtain ⟨a, rfl, h1⟩ := ints_at w b hi
        obtain ⟨m1, m2⟩ := minI_mem hn
        refine ⟨a, ns, rfl, h1, List.length_pos_iff.mpr hn, fun m hm ha => ?_⟩
        have e : m = minI ns := Int.le_antisymm (ha _ m1) (m2 m hm)
        subst e
        exact Res.same w res (show (if ns = [] then none else some (D.int (minI ns))) = _ from if_neg hn) (.int _)
  · exact res.elim
theorem cd_sum (hc : X.calm = true) : CallR X (.builtin "sum") (rDN X.K S sumD) := call_imp (cr_sum hc) fun xs H Q h => by
  obtain ⟨q, F, ds, w, r, res⟩ := h
  unfold sumD at res
  split at res
  · rename_i ys
    obtain ⟨v, rfl, b⟩ := r.inv1
    cases hi : intsD ys with
    | none => rw [hi] at res; exact res.elim
    | some ns =>
      rw [hi] at res
      obtain ⟨a, rfl, h1⟩ := ints_at w b hi
      exact ⟨a, ns, rfl, h1, Res.same w res rfl (.int _)⟩
  · exact res.elim
theorem bols_of : ∀ {K : PySem.W.Frag} {F : Hp} {xs : List D} {bs : List Bool} {vs : List V}, bolsD xs = some bs → RepL K S F xs vs → vs = bs.map V.bl
  | _, _, [], bs, vs, e, r => by
    cases r
    simp [bolsD] at e
    subst e
    rfl
  | K, F, d :: xs, bs, vs, e, r => by
    cases r with
    | @cons _ v _ ws r t =>
      unfold bolsD at e
      cases d with
      | bl j =>
        rw [List.mapM_cons] at e
        cases e1 : (xs.mapM boolD) with
        | none => rw [e1] at e; simp [boolD] at e
        | some ms =>
          rw [e1] at e
          simp [boolD] at e
          subst e
          have h2 := bols_of (xs := xs) e1 t
          cases r
          rw [h2]
          rfl
      | _ => rw [List.mapM_cons] at e; simp [boolD] at e
theorem cd_all (hc : X.calm = true) : CallR X (.builtin "all") (rDN X.K S allD) := call_imp (cr_all hc) fun xs H Q h => by
  obtain ⟨q, F, ds, w, r, res⟩ := h
  unfold allD at res
  split at res
  · rename_i ys
    obtain ⟨v, rfl, b⟩ := r.inv1
    cases hi : bolsD ys with
    | none => rw [hi] at res; exact res.elim
    | some bs =>
      rw [hi] at res
      obtain ⟨a, vs, rfl, h1, t1⟩ := b.seq w
      have e2 := bols_of hi t1
      subst e2
      exact ⟨a, bs, rfl, SqL.of h1, Res.same w res rfl (.bl _)⟩
  · exact res.elim
theorem cd_any (hc : X.calm = true) : CallR X (.builtin "any") (rDN X.K S anyD) := call_imp (cr_any hc) fun xs H Q h => by
  obtain ⟨q, F, ds, w, r, res⟩ := h
  unfold anyD at res
  split at res
  · rename_i ys
    obtain ⟨v, rfl, b⟩ := r.inv1
    cases hi : bolsD ys with
    | none => rw [hi] at res; exact res.elim
    | some bs =>
      rw [hi] at res
      obtain ⟨a, vs, rfl, h1, t1⟩ := b.seq w
      have e2 := bols_of hi t1
      subst e2
      exact ⟨a, bs, rfl, SqL.of h1, Res.same w res rfl (.bl _)⟩
  · exact res.elim
end
end Dl
namespace Dl
open PySem PySem.Spec PyProof.Rows L2

/-! ### isinstance, subscripts, slices, bit_length -/
theorem kit_all : ∀ c ∈ ["NoneType", "bool", "int", "str", "tuple", "list"], ∀ n ∈ ["bool", "int", "str", "tuple", "list"], kitB c n = some (kit c n) := by decide +kernel
theorem clsD_mem {d : D} {c : String} (h : clsD d = some c) : c ∈ ["NoneType", "bool", "int", "str", "tuple", "list"] := by
  unfold clsD at h
  split at h <;> cases h <;> decide
theorem kit_ok {K : PySem.W.Frag} {d : D} {c n : String} (h : clsD d = some c) (hn : okTy n = true) : PySem.W.kitOne K (.type c) (.type n) = some (kit c n) :=
  kit_ty (kit_all c (clsD_mem h) n (by unfold okTy at hn; exact List.contains_iff_mem.mp hn))
theorem tyX_of {K : PySem.W.Frag} {S : Sx} {F H : Hp} {q : PenS} {d : D} {v : V} {c : String} (w : Wf S q F H) (b : Br K S F H d v) (h : clsD d = some c) : TyX K H v (.type c) := by
  unfold clsD at h
  split at h
  · cases h
    cases b with
    | rep r => cases r; exact .base .non
  · cases h
    cases b with
    | rep r => cases r; exact .base (.bl _)
  · cases h
    cases b with
    | rep r => cases r; exact .base (.int _)
  · cases h
    cases b with
    | rep r => cases r; exact .base (.str _)
  · cases h
    obtain ⟨a, vs, rfl, h1, t1⟩ := b.tup w
    rcases h1 with h1 | ⟨o, its, n, h1, h2, _⟩
    · exact .base (.tup h1)
    · exact .kTuple h1 h2
  · cases h
    obtain ⟨a, vs, rfl, h1, t1⟩ := b.seq w
    exact .base (.lst h1)
  · cases h
theorem tys_of : ∀ {K : PySem.W.Frag} {S : Sx} {F : Hp} {xs : List D} {ns : List String} {vs : List V}, tysD xs = some ns → RepL K S F xs vs → vs = ns.map V.ty
  | _, _, _, [], bs, vs, e, r => by
    cases r
    simp [tysD] at e
    subst e
    rfl
  | K, S, F, d :: xs, bs, vs, e, r => by
    cases r with
    | @cons _ v _ ws r t =>
      unfold tysD at e
      cases d with
      | ty j =>
        rw [List.mapM_cons] at e
        cases e1 : (xs.mapM tyD) with
        | none => rw [e1] at e; simp [tyD] at e
        | some ms =>
          rw [e1] at e
          simp [tyD] at e
          subst e
          have h2 := tys_of (xs := xs) e1 t
          cases r
          rw [h2]
          rfl
      | _ => rw [List.mapM_cons] at e; simp [tyD] at e
theorem kits_ok {K : PySem.W.Frag} {d : D} {c : String} (h : clsD d = some c) : ∀ {ns : List String}, ns.all okTy = true → PySem.W.kitAny K (.type c) (ns.map Value.type) = some (ns.any (kit c))
  | [], _ => rfl
  | n :: r, ha => by
    rw [List.all_cons, Bool.and_eq_true] at ha
    refine kitAny_cons (kit_ok h ha.1) (fun e => ?_) fun e => ?_
    · rw [List.any_cons, e, Bool.false_or]
      exact kits_ok h ha.2
    · rw [List.any_cons, e, Bool.true_or]
theorem tys_rel : ∀ ns : List String, Paired ClsV (ns.map V.ty) (ns.map Value.type)
  | [] => .nil
  | n :: r => .cons (.ty n) (tys_rel r)
section
variable {X : Cx} {S : Sx}
theorem cd_isi : CallR X (.builtin "isinstance") (rDN X.K S isiD) := by
  intro pins s σ H xs us Q I rx h
  obtain ⟨q, F, ds, w, r, res⟩ := h
  unfold isiD at res
  split at res
  · rename_i d n
    obtain ⟨v, u, rfl, b, c⟩ := r.inv2
    cases hc : clsD d with
    | none => rw [hc] at res; exact res.elim
    | some t =>
      rw [hc] at res
      have res2 : Res S q F H (RE X.K S) (if okTy n = true then some (D.bl (kit t n)) else none) Q := res
      split at res2
      · rename_i hn
        have eu : u = .ty n := by
          cases c with
          | rep r => cases r; rfl
        subst eu
        exact call_isi pins s σ H _ us Q I rx ⟨v, .ty n, _, _, _, rfl, .ty n, tyX_of w b hc, kit_ok hc hn, res2.same w rfl (.bl _)⟩
      · exact res2.elim
  · rename_i d ys
    obtain ⟨v, u, rfl, b, c⟩ := r.inv2
    cases hc : clsD d with
    | none => rw [hc] at res; exact res.elim
    | some t =>
      rw [hc] at res
      cases hy : tysD ys with
      | none => rw [hy] at res; exact res.elim
      | some ns =>
        rw [hy] at res
        have res2 : Res S q F H (RE X.K S) (if ns.all okTy = true then some (D.bl (ns.any (kit t))) else none) Q := res
        split at res2
        · rename_i hn
          obtain ⟨a, vs, rfl, h1, t1⟩ := c.tup w
          have e2 := tys_of hy t1
          subst e2
          rcases h1 with h1 | ⟨o, its, m, h1, h2, h3, h4, h5⟩
          · exact call_isiT pins s σ H _ us Q I rx ⟨v, a, _, _, _, _, rfl, h1, tys_rel ns, tyX_of w b hc, kits_ok hc hn, res2.same w rfl (.bl _)⟩
          · obtain ⟨oc, od, dt, sl⟩ := o
            dsimp only at h2 h3
            subst h2 h3
            have e3 := ClsV.all (tys_rel ns) h5
            refine call_isiK pins s σ H _ us Q I rx ⟨v, a, od, ns.map Value.type, m, sl, _, _, rfl, ?_, tyX_of w b hc, kits_ok hc hn, res2.same w rfl (.bl _)⟩
            rw [h1, ← e3]
        · exact res2.elim
  · exact res.elim
end
def ixD : D → D → Option D
  | .tup xs, .int i => atI xs i
  | .lst xs, .int i => atI xs i
  | _, _ => none
theorem ixN_len {n m : Nat} (h : n = m) (i : Int) : ixN n i = ixN m i := by rw [h]
theorem atI_rep {K : PySem.W.Frag} {S : Sx} {F : Hp} {xs : List D} {vs : List V} {i : Int} {d : D} (r : RepL K S F xs vs) (h : atI xs i = some d) : ∃ v, atI vs i = some v ∧ Rep K S F d v := by
  unfold atI at h ⊢
  rw [r.length]
  cases e : ixN xs.length i with
  | none => rw [e] at h; cases h
  | some j =>
    rw [e] at h
    exact r.get h
section
variable {X : Cx} {C : Fx} {W : WX}
theorem de_ix {ga gb : DEnv → M D} {a b : Expr} {pos : Pos} (ha : PE X a (tEb X.K C W ga)) (hb : PE X b (tEb X.K C W gb)) (hs : PlainIx b := by exact fun _ _ => rfl) : PE X (.Subscript a b pos) (tE X.K C W (g2 ixD ga gb)) :=
  pe_imp (pe_ix ix_seq ha hb hs) fun σ H Q h => by
    obtain ⟨ρ, q, F, s, h⟩ := h
    refine ⟨ρ, q, F, s, Post.seq h fun d x q1 F1 H1 e1 w1 r1 h1 => ?_⟩
    refine ⟨ρ, q1, F1, s.step e1 w1, Post.seq h1 fun e y q2 F2 H2 e2 w2 r2 h2 => ?_⟩
    have h3 := h2.lift
    have r1' := r1.up w1 e2
    unfold ixD at h3
    split at h3
    · rename_i xs i
      obtain ⟨p, vs, rfl, h4, t4⟩ := r1'.tup w2
      cases hz : atI xs i with
      | none => rw [hz] at h3; exact h3.elim
      | some z =>
        obtain ⟨v, hv, rv⟩ := atI_rep t4 hz
        exact .inr (.inl ⟨p, vs, i, v, rfl, rep_int r2, h4.sq, hv, h3.same w2 hz rv⟩)
    · rename_i xs i
      obtain ⟨p, vs, rfl, h4, t4⟩ := r1'.seq w2
      cases hz : atI xs i with
      | none => rw [hz] at h3; exact h3.elim
      | some z =>
        obtain ⟨v, hv, rv⟩ := atI_rep t4 hz
        exact .inl ⟨p, vs, i, v, rfl, rep_int r2, SqL.of h4, hv, h3.same w2 hz rv⟩
    · exact h3.elim
/-- n.bit_length() -/
def bitsD : D → Option D
  | .int i => some (.int (Builtin.Int.intBits i : Nat))
  | _ => none
theorem de_bits {g : DEnv → M D} {o : Expr} {apos pos : Pos} (ho : PE X o (tE X.K C W g)) (hbase : attributeBase o "bit_length" X.env (eval o X.env) = eval o X.env := by rfl) (hline : (apos.endLine == pos.line) = true := by rfl) :
    PE X (.Call (.Attribute o "bit_length" apos) [] [] pos) (tE X.K C W (g1 bitsD g)) := pe_imp (pe_bits ho hbase hline) fun σ H Q h => by
  obtain ⟨ρ, q, F, s, h⟩ := h
  refine ⟨ρ, q, F, s, Post.seq h fun d x q1 F1 H1 e1 w1 r1 h1 => ?_⟩
  have h2 := h1.lift
  cases d with
  | int i =>
    cases r1
    exact ⟨i, rfl, h2.same w1 rfl (.int _)⟩
  | _ => exact h2.elim
/-! ### slices -/
def gOp (g : DEnv → M D) : DEnv → M (Option Int) := g1 (fun d => match d with
  | D.int i => some (some i)
  | _ => none) g
def gNo : DEnv → M (Option Int) := fun _ q => .ok none q
abbrev RO : Hp → Hp → Option Int → Option Int → Prop := fun _ _ a b => b = a
abbrev tO (K : PySem.W.Frag) (C : Fx) (W : WX) (g : DEnv → M (Option Int)) : TO := tG K C W RO g
theorem po_imp {e : Option Expr} {t t' : TO} (h : PO X e t) (i : ∀ σ H Q, t' σ H Q → t σ H Q) : PO X e t' := ⟨fun pins s σ H Q I w => h.run pins s σ H Q I (i σ H Q w)⟩
theorem do_no : PO X none (tO X.K C W gNo) := po_imp po_none fun σ H Q h => by
  obtain ⟨ρ, q, F, s, h⟩ := h
  exact h none F H .refl s.wf rfl
theorem do_some {g : DEnv → M D} {e : Expr} (h : PE X e (tE X.K C W g)) : PO X (some e) (tO X.K C W (gOp g)) := po_imp (po_some h) fun σ H Q h => by
  obtain ⟨ρ, q, F, s, h⟩ := h
  refine ⟨ρ, q, F, s, Post.seq h fun d x q1 F1 H1 e1 w1 r1 h1 => ?_⟩
  have h2 := h1.lift
  cases d with
  | int i =>
    cases r1
    exact ⟨i, rfl, h2 _ F1 H1 .refl w1 rfl⟩
  | _ => exact h2.elim
def cutD (xs : List D) (lo hi : Option Int) : List D := (xs.drop (HT.sIx xs.length 0 lo)).take (HT.sIx xs.length xs.length hi - HT.sIx xs.length 0 lo)
theorem RepL.cut {K : PySem.W.Frag} {S : Sx} {F : Hp} {xs : List D} {vs : List V} (r : RepL K S F xs vs) (lo hi : Option Int) : RepL K S F (cutD xs lo hi) (cutV vs lo hi) := by
  unfold cutD cutV
  rw [r.length]
  exact (r.drop _).take _
def slLD (d : D) (lo hi : Option Int) : Option D := match d with
  | .lst xs => some (.lst (cutD xs lo hi))
  | _ => none
def slTD (d : D) (lo hi : Option Int) : Option D := match d with
  | .tup xs => some (.tup (cutD xs lo hi))
  | _ => none
def g3 {α β γ δ : Type} (f : α → β → γ → Option δ) (a : DEnv → M α) (b : DEnv → M β) (c : DEnv → M γ) : DEnv → M δ := fun ρ => a ρ >>= fun x => b ρ >>= fun y => c ρ >>= fun z => lift (f x y z)
theorem dn_sl {ga : DEnv → M D} {gl gh : DEnv → M (Option Int)} {a : Expr} {lo hi : Option Expr} {p2 pos : Pos} (ha : PE X a (tEb X.K C W ga)) (hl : PO X lo (tO X.K C W gl)) (hh : PO X hi (tO X.K C W gh)) : PE X (.Subscript a (.Slice lo hi none p2) pos) (tN X.K C W (g3 slLD ga gl gh)) :=
  pe_imp (pe_slice sl_list ha hl hh) fun σ H Q h => by
    obtain ⟨ρ, q, F, s, h⟩ := h
    refine ⟨ρ, q, F, s, Post.seq h fun d x q1 F1 H1 e1 w1 r1 h1 => ?_⟩
    refine ⟨ρ, q1, F1, s.step e1 w1, Post.seq h1 fun l y q2 F2 H2 e2 w2 r2 h2 => ?_⟩
    refine ⟨ρ, q2, F2, (s.step e1 w1).step e2 w2, Post.seq h2 fun l2 y2 q3 F3 H3 e3 w3 r3 h3 => ?_⟩
    subst r2
    subst r3
    have h4 := h3.lift
    have r1' := (r1.up w1 e2).up w2 e3
    unfold slLD at h4
    split at h4
    · rename_i xs
      obtain ⟨p, vs, rfl, h5, t5⟩ := r1'.seq w3
      refine ⟨p, vs, rfl, SqL.of h5, fun b hb => ?_⟩
      obtain ⟨e4, w4, f4⟩ := w3.made hb (.lst (cutV vs y y2))
      refine h4 _ _ _ e4 w4 ⟨b, _, _, rfl, rfl, ?_, f4, upd_same, t5.cut _ _⟩
      cases e0 : H b with
      | none => rfl
      | some o => exact absurd hb (e3.k b (e2.k b (e1.k b (by rw [e0]; simp))))
    · exact h4.elim
end
end Dl
namespace Dl
open PySem PySem.Spec PyProof.Rows L2

/-! ### targets -/
inductive Tg where
  | nm (i : Nat) | tp (is : List Nat)
def gNames : List Nat → TGs
  | [] => L2.gNil
  | i :: r => L2.gCons (gName i) (gNames r)
def gT (K : PySem.W.Frag) : Tg → TG
  | .nm i => gName i
  | .tp is => gTup K is.length (gNames is)
def setsD : List Nat → List D → DEnv → DEnv
  | i :: r, d :: ds, ρ => setsD r ds (ρ.set i (some d))
  | _, _, ρ => ρ
def tgD : Tg → D → DEnv → Option DEnv
  | .nm i, d, ρ => some (ρ.set i (some d))
  | .tp is, .tup ds, ρ => if ds.length = is.length then some (setsD is ds ρ) else none
  | _, _, _ => none
def Tg.slots : Tg → List Nat
  | .nm i => [i]
  | .tp is => is
theorem wipe_set {σ : L2.St} {i : Nat} {x : Option V} : ∀ {vs : List Nat}, i ∈ vs → L2.wipe (σ.set i x) vs = L2.wipe σ vs
  | [], h => nomatch h
  | v :: vs, h => by
    show (L2.wipe (σ.set i x) vs).set v none = (L2.wipe σ vs).set v none
    by_cases hm : i ∈ vs
    · rw [wipe_set hm]
    · have e : i = v := by
        rcases List.mem_cons.mp h with h | h
        · exact h
        · exact absurd h hm
      subst e
      have key : ∀ (vs : List Nat) (σ : L2.St), (L2.wipe (σ.set i x) vs).set i none = (L2.wipe σ vs).set i none := by
        intro vs
        induction vs with
        | nil => intro σ; show (σ.set i x).set i none = σ.set i none; rw [List.set_set]
        | cons u us ih =>
          intro σ
          show ((L2.wipe (σ.set i x) us).set u none).set i none = ((L2.wipe σ us).set u none).set i none
          by_cases hu : u = i
          · subst hu
            rw [List.set_set, List.set_set, ih]
          · rw [List.set_comm _ _ hu, List.set_comm _ _ hu, ih]
      exact key vs σ
theorem wipe_wipe {σ : L2.St} : ∀ {vs ws : List Nat}, (∀ i ∈ ws, i ∈ vs) → L2.wipe (L2.wipe σ ws) vs = L2.wipe σ vs
  | vs, [], _ => rfl
  | vs, w :: ws, h => by
    show L2.wipe ((L2.wipe σ ws).set w none) vs = _
    rw [wipe_set (h w (List.mem_cons_self ..))]
    exact wipe_wipe fun i hi => h i (List.mem_cons_of_mem _ hi)
section
variable {K : PySem.W.Frag} {C : Fx}
theorem names_ok {q : PenS} {F H : Hp} {vs : List Nat} : ∀ {is : List Nat} {ds : List D} {ws : List V} {ρ : DEnv} {σ : L2.St} {Q : L2.St → Hp → Prop}, StR K C ρ q F σ H → (∀ i ∈ is, C.own i = false) → ds.length = is.length → RepL K C.S F ds ws →
    (∀ σ', StR K C (setsD is ds ρ) q F σ' H → ((∀ i ∈ is, i ∈ vs) → L2.wipe σ' vs = L2.wipe σ vs) → Q σ' H) → gNames is ws σ H Q
  | [], ds, ws, ρ, σ, Q, s, _, hl, r, k => by
    have e : ds = [] := List.length_eq_zero_iff.mp hl
    subst e
    cases r
    exact ⟨rfl, k σ s fun _ => rfl⟩
  | i :: is, [], ws, ρ, σ, Q, s, _, hl, r, k => by cases hl
  | i :: is, d :: ds, ws, ρ, σ, Q, s, ho, hl, r, k => by
    cases r with
    | @cons _ v _ ws' r t =>
      refine ⟨v, ws', rfl, ?_⟩
      show gNames is ws' (σ.set i (some v)) H Q
      refine names_ok (vs := vs) (s.set (ho i (List.mem_cons_self ..)) r) (fun j hj => ho j (List.mem_cons_of_mem _ hj)) (Nat.succ.inj hl) t fun σ' s' h => k σ' s' fun hm => ?_
      rw [h fun j hj => hm j (List.mem_cons_of_mem _ hj)]
      exact wipe_set (hm i (List.mem_cons_self ..))
theorem tg_ok {q : PenS} {F H : Hp} {vs : List Nat} {t : Tg} {d : D} {v : V} {ρ ρ' : DEnv} {σ : L2.St} {Q : L2.St → Hp → Prop} (s : StR K C ρ q F σ H) (ho : ∀ i ∈ t.slots, C.own i = false) (r : Rep K C.S F d v) (h : tgD t d ρ = some ρ')
    (k : ∀ σ', StR K C ρ' q F σ' H → ((∀ i ∈ t.slots, i ∈ vs) → L2.wipe σ' vs = L2.wipe σ vs) → Q σ' H) : gT K t v σ H Q := by
  cases t with
  | nm i =>
    cases h
    exact k _ (s.set (ho i (List.mem_cons_self ..)) r) fun hm => wipe_set (hm i (List.mem_cons_self ..))
  | tp is =>
    cases r with
    | @tup a xs ws h1 h2 =>
      have h' : (if xs.length = is.length then some (setsD is xs ρ) else none) = some ρ' := h
      split at h'
      · rename_i hl
        cases h'
        refine ⟨a, ws, rfl, (h1.up s.wf.sub).sq, by rw [h2.length]; exact hl, ?_⟩
        exact names_ok (vs := vs) s ho hl h2 k
      · cases h'
    | _ => cases h
end
section
variable {X : Cx}
theorem pgt_nm {i : Nat} {x : Str} {pos : Pos} (hN : X.N.Nodup) (hi : X.N[i]? = some x := by rfl) (hx : Loc X.env.scope x := by first | exact .inl rfl | exact .inr rfl) (hf : X.fn x = true ∨ X.env.scope.names.lookup x = some .local := by first | exact .inl rfl | exact .inr rfl | assumption) : PG X (.Name x pos) (gT X.K (.nm i)) := pg_name hN hi hx hf
theorem pgs_n {i : Nat} {is : List Nat} {e : Expr} {es : List Expr} (h1 : PG X e (gName i)) (h2 : PGs X es (gNames is)) (hs : (assignEach (e :: es) X.env).map (·.2) = assign e X.env :: (assignEach es X.env).map (·.2) := by rfl) : PGs X (e :: es) (gNames (i :: is)) := pgs_cons h1 h2 hs
theorem pgs_0 : PGs X [] (gNames []) := pgs_nil
theorem pgt_tp {es : List Expr} {k : Nat} {is : List Nat} {pos : Pos} (hc : X.calm = true) (h : PGs X es (gNames is)) (hn : (assignEach es X.env).length = is.length := by rfl) (hst : (assignEach es X.env).findIdx? (·.1) = none := by rfl) : PG X (.Tuple es k pos) (gT X.K (.tp is)) := pg_tup hc h hn hst
end

/-! ### what is walked -/
structure Wk (K : PySem.W.Frag) (S : Sx) (J : It) (xs : List D) (G : Hp → Hp → Prop) : Prop where
  go : ∀ i F H q, i < xs.length → Wf S q F H → G F H → J.go i H
  stop : ∀ F H q, Wf S q F H → G F H → J.stop xs.length H
  yld : ∀ i F H q x H', i < xs.length → Wf S q F H → G F H → J.yld i H x H' → ∃ F' d, Ev S F H F' H' ∧ Wf S q F' H' ∧ xs[i]? = some d ∧ Rep K S F' d x
abbrev RWE (K : PySem.W.Frag) (S : Sx) : Hp → Hp → List D → It → Prop := fun F H xs J => ∃ G, Wk K S J xs G ∧ G F H ∧ ∀ F' H', Ev S F H F' H' → (∃ q, Wf S q F' H') → G F' H'
abbrev RWF (K : PySem.W.Frag) (S : Sx) : Hp → Hp → List D → It → Prop := fun F H xs J => ∃ G, Wk K S J xs G ∧ ∀ F' H', (∀ a o, F a = some o → F' a = some o) → (∃ q, Wf S q F' H') → G F' H'
abbrev tI (K : PySem.W.Frag) (C : Fx) (W : WX) (g : DEnv → M (List D)) : TI := tG K C W (RWE K C.S) g
abbrev tIf (K : PySem.W.Frag) (C : Fx) (W : WX) (g : DEnv → M (List D)) : TI := tG K C W (RWF K C.S) g
section
variable {X : Cx} {C : Fx} {W : WX}
theorem PI.e {tg it : Expr} {g : DEnv → M (List D)} (h : PI X tg it (tIf X.K C W g)) : PI X tg it (tI X.K C W g) := pi_imp h fun σ H R h => by
  obtain ⟨ρ, q, F, s, h⟩ := h
  refine ⟨ρ, q, F, s, ?_⟩
  cases e : g ρ q with
  | ok a q1 =>
    rw [e] at h
    rintro J F1 H1 ev wf ⟨G, k, st⟩
    exact h J F1 H1 ev wf ⟨G, k, st F1 H1 (fun _ _ e => e) ⟨q1, wf⟩, fun F' H' e w => st F' H' e.f w⟩
  | exc c fs q1 => rw [e] at h; exact h
  | bad => rw [e] at h; exact h
/-- a list, a tuple that stays -/
def seqD : D → Option (List D)
  | .lst xs => some xs
  | .tup xs => some xs
  | _ => none
def lstD : D → Option (List D)
  | .lst xs => some xs
  | _ => none
def tupD : D → Option (List D)
  | .tup xs => some xs
  | _ => none
theorem wk_tup {K : PySem.W.Frag} {S : Sx} {a : Addr} {xs : List D} {vs : List V} {F0 : Hp} (r : RepL K S F0 xs vs) : Wk K S (Itt K a) xs (fun F H => SqT K H a vs ∧ ∀ b o, F0 b = some o → F b = some o) where
  go := fun i F H q hi w g => ⟨vs, vs[i]'(by rw [r.length]; exact hi), g.1, by simp [r.length, hi]⟩
  stop := fun F H q w g => ⟨vs, g.1, by rw [r.length]; exact Nat.le_refl _⟩
  yld := fun i F H q x H' hi w g y => by
    obtain ⟨e, y⟩ := y
    subst e
    obtain ⟨d, h1, h2⟩ := r.getV (y vs g.1)
    exact ⟨F, d, .refl, w, h1, h2.up g.2⟩
theorem wk_lst {K : PySem.W.Frag} {S : Sx} {a : Addr} {xs : List D} {vs : List V} {F0 : Hp} (r : RepL K S F0 xs vs) : Wk K S (Itl K a) xs (fun F H => H a = some (.lst vs) ∧ ∀ b o, F0 b = some o → F b = some o) where
  go := fun i F H q hi w g => ⟨vs, vs[i]'(by rw [r.length]; exact hi), SqL.of g.1, by simp [r.length, hi]⟩
  stop := fun F H q w g => ⟨vs, SqL.of g.1, by rw [r.length]; exact Nat.le_refl _⟩
  yld := fun i F H q x H' hi w g y => by
    obtain ⟨e, y⟩ := y
    subst e
    obtain ⟨d, h1, h2⟩ := r.getV (y vs (SqL.of g.1))
    exact ⟨F, d, .refl, w, h1, h2.up g.2⟩
theorem di_tup {tg l : Expr} {g : DEnv → M D} (h : PE X l (tE X.K C W g)) : PI X tg l (tIf X.K C W (g1 tupD g)) := pi_imp (pi_tup h) fun σ H R h => by
  obtain ⟨ρ, q, F, s, h⟩ := h
  refine ⟨ρ, q, F, s, Post.seq h fun d x q1 F1 H1 e1 w1 r1 h1 => ?_⟩
  have h2 := h1.lift
  cases d with
  | tup xs =>
    cases r1 with
    | @tup a _ vs h3 h4 => exact ⟨a, rfl, ⟨vs, (h3.up w1.sub).sq⟩, h2 _ F1 H1 .refl w1 ⟨_, wk_tup h4, fun F' H' e w => ⟨((h3.up e).up w.choose_spec.sub).sq, e⟩⟩⟩
  | _ => exact h2.elim
theorem di_lst {tg l : Expr} {g : DEnv → M D} (h : PE X l (tE X.K C W g)) : PI X tg l (tIf X.K C W (g1 lstD g)) := pi_imp (pi_list h) fun σ H R h => by
  obtain ⟨ρ, q, F, s, h⟩ := h
  refine ⟨ρ, q, F, s, Post.seq h fun d x q1 F1 H1 e1 w1 r1 h1 => ?_⟩
  have h2 := h1.lift
  cases d with
  | lst xs =>
    cases r1 with
    | @lst a _ vs h3 h4 => exact ⟨a, rfl, ⟨vs, SqL.of (w1.sub _ _ h3)⟩, h2 _ F1 H1 .refl w1 ⟨_, wk_lst h4, fun F' H' e w => ⟨w.choose_spec.sub _ _ (e _ _ h3), e⟩⟩⟩
  | _ => exact h2.elim
/-- a borrowed list, in a comprehension -/
theorem di_lstB {tg l : Expr} {g : DEnv → M D} (h : PE X l (tEb X.K C W g)) : PI X tg l (tI X.K C W (g1 lstD g)) := pi_imp (pi_list h) fun σ H R h => by
  obtain ⟨ρ, q, F, s, h⟩ := h
  refine ⟨ρ, q, F, s, Post.seq h fun d x q1 F1 H1 e1 w1 r1 h1 => ?_⟩
  have h2 := h1.lift
  cases d with
  | lst xs =>
    obtain ⟨a, vs, rfl, h3, h4⟩ := r1.seq w1
    refine ⟨a, rfl, ⟨vs, SqL.of h3⟩, h2 _ F1 H1 .refl w1 ⟨_, wk_lst h4, ⟨h3, fun _ _ e => e⟩, fun F' H' e w => ⟨e.h _ _ h3 (fun z => ?_) nofun, e.f⟩⟩⟩
    rw [z, w1.pen] at h3
    cases h3
  | _ => exact h2.elim
def rngL (lo : Int) (n : Nat) : List D := (List.range n).map fun i => .int (lo + (i : Nat))
theorem wk_rng {K : PySem.W.Frag} {S : Sx} (lo : Int) (n : Nat) : Wk K S (Itr lo n) (rngL lo n) (fun _ _ => True) where
  go := fun i F H q hi w g => by
    unfold rngL at hi
    rw [List.length_map, List.length_range] at hi
    exact hi
  stop := fun F H q w g => by
    unfold rngL
    rw [List.length_map, List.length_range]
    exact Nat.le_refl _
  yld := fun i F H q x H' hi w g y => by
    obtain ⟨e, y⟩ := y
    subst e
    subst y
    unfold rngL at hi ⊢
    rw [List.length_map, List.length_range] at hi
    exact ⟨F, .int (lo + (i : Nat)), .refl, w, by simp [hi], .int _⟩
def rng1D : List D → Option (List D)
  | [.int j] => if j < 4611686018427387904 ∧ -4611686018427387904 ≤ j then some (rngL 0 j.toNat) else none
  | _ => none
def rng2D : List D → Option (List D)
  | [.int i, .int j] => if (i < 4611686018427387904 ∧ -4611686018427387904 ≤ i) ∧ j < 4611686018427387904 ∧ -4611686018427387904 ≤ j then some (rngL i (j - i).toNat) else none
  | _ => none
theorem di_range1 {tg a : Expr} {gs : DEnv → M (List D)} {p pos : Pos} (hm : X.mg "range" = none) (ha : PA X [a] (tA X.K C W gs)) (hg : Gl X "range" := by rfl) (hs : starEach [a] X.env = [(false, eval a X.env)] := by rfl) : PI X tg (.Call (.Name "range" p) [a] [] pos) (tIf X.K C W (g1 rng1D gs)) :=
  pi_imp (pi_range1 hg hm ha hs) fun σ H R h => by
    obtain ⟨ρ, q, F, s, h⟩ := h
    refine ⟨ρ, q, F, s, Post.seq h fun ds xs q1 F1 H1 e1 w1 r1 h1 => ?_⟩
    have h2 := h1.lift
    unfold rng1D at h2
    split at h2
    · rename_i j
      split at h2
      · rename_i hj
        obtain ⟨v, rfl, b⟩ := r1.inv1
        cases b
        exact ⟨j, rfl, by omega, by omega, h2 _ F1 H1 .refl w1 ⟨_, wk_rng 0 j.toNat, fun _ _ _ _ => trivial⟩⟩
      · exact h2.elim
    · exact h2.elim
theorem di_range2 {tg a b : Expr} {gs : DEnv → M (List D)} {p pos : Pos} (hm : X.mg "range" = none) (ha : PA X [a, b] (tA X.K C W gs)) (hg : Gl X "range" := by rfl) (hs : starEach [a, b] X.env = [(false, eval a X.env), (false, eval b X.env)] := by rfl) (hs2 : starEach [b] X.env = [(false, eval b X.env)] := by rfl) :
    PI X tg (.Call (.Name "range" p) [a, b] [] pos) (tIf X.K C W (g1 rng2D gs)) :=
  pi_imp (pi_range2 hg hm ha hs hs2) fun σ H R h => by
    obtain ⟨ρ, q, F, s, h⟩ := h
    refine ⟨ρ, q, F, s, Post.seq h fun ds xs q1 F1 H1 e1 w1 r1 h1 => ?_⟩
    have h2 := h1.lift
    unfold rng2D at h2
    split at h2
    · rename_i i j
      split at h2
      · rename_i hj
        obtain ⟨v, u, rfl, b, c⟩ := r1.inv2
        cases b
        cases c
        exact ⟨i, j, rfl, by omega, h2 _ F1 H1 .refl w1 ⟨_, wk_rng i (j - i).toNat, fun _ _ _ _ => trivial⟩⟩
      · exact h2.elim
    · exact h2.elim
end

/-! ### comprehensions -/
def noX {α : Type} (m : M α) : M α := fun q => match m q with
  | .ok a q1 => .ok a q1
  | _ => .bad
def lcM (t : Tg) (test : DEnv → M Bool) (elt : DEnv → M D) (ρ : DEnv) : List D → M (List D)
  | [] => fun q => .ok [] q
  | x :: xs => match tgD t x ρ with
    | none => fun _ => .bad
    | some ρ1 => noX (test ρ1) >>= fun b => if b = true then noX (elt ρ1) >>= fun y => lcM t test elt ρ xs >>= fun r => lift (some (y :: r)) else lcM t test elt ρ xs
def gLc (vs : List Nat) (gi : DEnv → M (List D)) (t : Tg) (test : DEnv → M Bool) (elt : DEnv → M D) : DEnv → M D := fun ρ => gi ρ >>= fun xs => lcM t test elt (wipeD ρ vs) xs >>= fun r => if r.length ≤ 100000 then lift (some (.lst r)) else lift none
def gYes : DEnv → M Bool := fun _ q => .ok true q
abbrev W0 : WX := fun _ _ _ _ => False
section
variable {X : Cx} {C : Fx} {W : WX}
theorem dts_nil : PTs X [] (tT X.K C W gYes) := ⟨fun pins s σ H Q I h => by
  obtain ⟨ρ, q, F, st, h⟩ := h
  exact pts_nil.run pins s σ H Q I (h true F H .refl st.wf rfl)⟩
theorem dts_one {c : Expr} {g : DEnv → M Bool} (h : PT X c (tT X.K C W g)) : PTs X [c] (tT X.K C W g) := pts_one h
theorem noX_go {α γ δ : Type} {K : PySem.W.Frag} {S : Sx} {E : XK} {F H : Hp} {R2 : Hp → Hp → γ → δ → Prop} {m : M α} {q : PenS} {f : α → M γ} {Q : δ → Hp → Prop} (h : Post K S E F H R2 ((noX m q).bd f) Q) :
    ∃ a q1, m q = .ok a q1 ∧ Post K S E F H R2 (f a q1) Q := by
  unfold noX at h
  cases e : m q with
  | ok a q1 =>
    rw [e] at h
    exact ⟨a, q1, rfl, h⟩
  | exc c fs q1 => rw [e] at h; exact h.elim
  | bad => rw [e] at h; exact h.elim
theorem bd_bd {α β γ : Type} (r : Rz α) (f : α → M β) (g : β → M γ) : (r.bd f).bd g = r.bd fun b q' => (f b q').bd g := by cases r <;> rfl
def lcEnd (acc : List D) : List D → M D := fun r => if (acc ++ r).length ≤ 100000 then lift (some (.lst (acc ++ r))) else lift none
theorem lcEnd_cons (acc : List D) (y : D) (r : Rz (List D)) : (r.bd fun r => lift (some (y :: r))).bd (lcEnd acc) = r.bd (lcEnd (acc ++ [y])) := by
  cases r with
  | ok a q =>
    show lcEnd acc (y :: a) q = lcEnd (acc ++ [y]) a q
    unfold lcEnd
    rw [show acc ++ y :: a = acc ++ [y] ++ a by simp]
  | _ => rfl
theorem lcEnd_nil {acc : List D} {q : PenS} {K : PySem.W.Frag} {S : Sx} {E : XK} {F H : Hp} {R2 : Hp → Hp → D → V → Prop} {Q : VK} (h : Post K S E F H R2 (lcEnd acc [] q) Q) : acc.length ≤ 100000 ∧ Post K S E F H R2 (.ok (.lst acc) q) Q := by
  unfold lcEnd at h
  rw [List.append_nil] at h
  split at h
  · rename_i hl
    exact ⟨hl, h⟩
  · exact h.elim
theorem lcM_len {t : Tg} {test : DEnv → M Bool} {elt : DEnv → M D} {ρ : DEnv} : ∀ {xs : List D} {q q1 : PenS} {r : List D}, lcM t test elt ρ xs q = .ok r q1 → r.length ≤ xs.length
  | [], q, q1, r, h => by
    cases h
    exact Nat.le_refl _
  | x :: xs, q, q1, r, h => by
    unfold lcM at h
    cases ht : tgD t x ρ with
    | none => rw [ht] at h; cases h
    | some ρ1 =>
      rw [ht] at h
      have h : (noX (test ρ1) q).bd (fun b => if b = true then noX (elt ρ1) >>= fun y => lcM t test elt ρ xs >>= fun r => lift (some (y :: r)) else lcM t test elt ρ xs) = .ok r q1 := h
      cases e1 : noX (test ρ1) q with
      | ok b q2 =>
        rw [e1] at h
        cases b with
        | true =>
          have h : (noX (elt ρ1) q2).bd (fun y => lcM t test elt ρ xs >>= fun r => lift (some (y :: r))) = .ok r q1 := h
          cases e2 : noX (elt ρ1) q2 with
          | ok y q3 =>
            rw [e2] at h
            have h : (lcM t test elt ρ xs q3).bd (fun r => lift (some (y :: r))) = .ok r q1 := h
            cases e3 : lcM t test elt ρ xs q3 with
            | ok r' q4 =>
              rw [e3] at h
              cases h
              have := lcM_len e3
              rw [List.length_cons, List.length_cons]
              omega
            | _ => rw [e3] at h; cases h
          | _ => rw [e2] at h; cases h
        | false =>
          have h : lcM t test elt ρ xs q2 = .ok r q1 := h
          have := lcM_len h
          rw [List.length_cons]
          omega
      | _ => rw [e1] at h; cases h
theorem noX_exc {α : Type} {m : M α} {q q1 : PenS} {c : Str} {fs : List (Str × D)} : noX m q ≠ .exc c fs q1 := by
  unfold noX
  cases m q <;> exact fun h => nomatch h
theorem lcM_exc {t : Tg} {test : DEnv → M Bool} {elt : DEnv → M D} {ρ : DEnv} : ∀ {xs : List D} {q q1 : PenS} {c : Str} {fs : List (Str × D)}, lcM t test elt ρ xs q ≠ .exc c fs q1
  | [], q, q1, c, fs, h => by cases h
  | x :: xs, q, q1, c, fs, h => by
    unfold lcM at h
    cases ht : tgD t x ρ with
    | none => rw [ht] at h; cases h
    | some ρ1 =>
      rw [ht] at h
      have h : (noX (test ρ1) q).bd (fun b => if b = true then noX (elt ρ1) >>= fun y => lcM t test elt ρ xs >>= fun r => lift (some (y :: r)) else lcM t test elt ρ xs) = .exc c fs q1 := h
      cases e1 : noX (test ρ1) q with
      | ok b q2 =>
        rw [e1] at h
        cases b with
        | true =>
          have h : (noX (elt ρ1) q2).bd (fun y => lcM t test elt ρ xs >>= fun r => lift (some (y :: r))) = .exc c fs q1 := h
          cases e2 : noX (elt ρ1) q2 with
          | ok y q3 =>
            rw [e2] at h
            have h : (lcM t test elt ρ xs q3).bd (fun r => lift (some (y :: r))) = .exc c fs q1 := h
            cases e3 : lcM t test elt ρ xs q3 with
            | exc c' fs' q4 => exact lcM_exc e3
            | _ => rw [e3] at h; cases h
          | exc c' fs' q4 => exact noX_exc e2
          | bad => rw [e2] at h; cases h
        | false =>
          have h : lcM t test elt ρ xs q2 = .exc c fs q1 := h
          exact lcM_exc h
      | exc c' fs' q4 => exact noX_exc e1
      | bad => rw [e1] at h; cases h
theorem t_lc {t : Tg} {gi : DEnv → M (List D)} {test : DEnv → M Bool} {elt : DEnv → M D} {vs : List Nat} {σ : L2.St} {H : Hp} {Q : VK} (ho : ∀ i ∈ t.slots, C.own i = false) (hv : ∀ i ∈ t.slots, i ∈ vs)
    (h : tN X.K C W (gLc vs gi t test elt) σ H Q) : tLc (tI X.K C W gi) (gT X.K t) (tT X.K C W0 test) (tE X.K C W0 elt) vs σ H Q := by
  obtain ⟨ρ, q, F, s, h⟩ := h
  refine ⟨ρ, q, F, s, Post.seq h fun xs J q1 F1 H1 e1 w1 r1 h1 => ?_⟩
  obtain ⟨G, wk, g0, gs⟩ := r1
  intro Dd hD
  have s1 := s.step e1 w1
  obtain ⟨ev0, wf0, f0⟩ := w1.made hD (.lst [])
  have np : Dd ≠ C.S.p := fun z => by have := w1.pen; rw [← z, hD] at this; cases this
  have nc : Dd ≠ C.S.c := fun z => by have := w1.cel; rw [← z, hD] at this; cases this
  have h0 : H Dd = none := by
    cases e0 : H Dd with
    | none => rfl
    | some o => exact absurd hD (e1.k Dd (by rw [e0]; simp))
  -- what holds behind i turns
  let Pv : Nat → Hp → Prop := fun i H2 => ∃ q2 F2 acc ws, Wf C.S q2 F2 H2 ∧ Ev C.S F1 H1 F2 H2 ∧ F2 Dd = none ∧ H2 Dd = some (.lst ws) ∧ RepL X.K C.S F2 acc ws ∧ ws.length ≤ i ∧
    Post X.K C.S (fun cls d H' => W cls d σ H') F1 H1 (RN X.K C.S H) ((lcM t test elt (wipeD ρ vs) (xs.drop i) q2).bd (lcEnd acc)) Q
  have start : Pv 0 (upd H1 Dd (.lst [])) := ⟨q1, F1, [], [], wf0, ev0, f0, upd_same, .nil, Nat.le_refl _, by
    rw [List.drop_zero]
    exact h1⟩
  refine ⟨fun i m H2 => m = xs.length - i ∧ i ≤ xs.length ∧ Pv i H2, ⟨_, rfl, Nat.zero_le _, start⟩, ?_⟩
  rintro i m H2 ⟨rfl, hi, q2, F2, acc, ws, w2, e2, fD, hD2, r2, lw, h2⟩
  have gg : G F2 H2 := gs F2 H2 e2 ⟨q2, w2⟩
  by_cases hlt : i < xs.length
  · refine .inr ⟨wk.go i F2 H2 q2 hlt w2 gg, Pv (i + 1), fun H' p' => ⟨xs.length - (i + 1), by omega, rfl, hlt, p'⟩, fun x H3 y => ?_⟩
    obtain ⟨F3, d, e3, w3, hd, rd⟩ := wk.yld i F2 H2 q2 x H3 hlt w2 gg y
    have hdr : xs.drop i = d :: xs.drop (i + 1) := by
      have h5 : xs[i]? = some xs[i] := by simp [hlt]
      rw [h5] at hd
      rw [List.drop_eq_getElem_cons hlt, Option.some.inj hd]
    rw [hdr] at h2
    have s3 : StR X.K C (wipeD ρ vs) q2 F3 (L2.wipe σ vs) H3 := ((s1.step e2 w2).step e3 w3).wipe vs
    unfold lcM at h2
    cases ht : tgD t d (wipeD ρ vs) with
    | none => rw [ht] at h2; exact h2.elim
    | some ρ1 =>
      rw [ht] at h2
      dsimp only at h2
      rw [bnd_def, bd_bd] at h2
      obtain ⟨b, q4, et, h4⟩ := noX_go h2
      refine tg_ok (vs := vs) s3 ho rd ht fun σ2 s4 hw => ⟨?_, ?_⟩
      · rw [hw hv]
        exact wipe_wipe fun i hi => hi
      refine ⟨ρ1, q2, F3, s4, ?_⟩
      rw [et]
      intro c F4 H4 e4 w4 r4
      subst r4
      cases c with
      | false =>
        rw [if_neg Bool.false_ne_true] at h4 ⊢
        have r5 : RepL X.K C.S F4 acc ws := r2.up (e3.trans e4).f
        exact ⟨q4, F4, acc, ws, w4, (e2.trans e3).trans e4, (e3.trans e4).n Dd fD (by rw [hD2]; simp), (e3.trans e4).h Dd _ hD2 np nofun, r5, by omega, h4⟩
      | true =>
        rw [if_pos rfl] at h4 ⊢
        rw [bnd_def, bd_bd] at h4
        obtain ⟨y, q5, ey, h5⟩ := noX_go h4
        refine ⟨ρ1, q4, F4, s4.step e4 w4, ?_⟩
        rw [ey]
        intro v F5 H5 e5 w5 r5
        rw [bnd_def, lcEnd_cons] at h5
        have e35 := (e3.trans e4).trans e5
        have hD5 : H5 Dd = some (.lst ws) := e35.h Dd _ hD2 np nofun
        have fD5 : F5 Dd = none := e35.n Dd fD (by rw [hD2]; simp)
        have rr : RepL X.K C.S F5 (acc ++ [y]) (ws ++ [v]) := (r2.up e35.f).append (.one r5)
        have e05 : Ev C.S F1 H1 F5 H5 := e2.trans e35
        have wA : Wf C.S q5 F5 (upd H5 Dd (.lst (ws ++ [v]))) := ⟨fun a o e => by
            rw [upd_ne (fun z => by rw [z, fD5] at e; cases e)]
            exact w5.sub a o e, w5.fp, by rw [upd_ne (Ne.symm np)]; exact w5.pen, by rw [upd_ne (Ne.symm nc)]; exact w5.cel, tabs_lst w5.tab hD5, w5.ft⟩
        have eA : Ev C.S F1 H1 F5 (upd H5 Dd (.lst (ws ++ [v]))) := ⟨e05.f, e05.n, fun a o e n t => by
            rw [upd_ne (fun z => by rw [z, hD] at e; cases e)]
            exact e05.h a o e n t, fun a n => by
            rw [upd_ne (fun z => n (by rw [z]; exact hD))]
            exact e05.k a n⟩
        refine ⟨ws, hD5, ?_, q5, F5, acc ++ [y], ws ++ [v], wA, eA, fD5, upd_same, rr, by rw [List.length_append]; simp; omega, h5⟩
        have la := rr.length
        -- the length: what is left ends, so it is bounded by the end's bound
        cases hr : lcM t test elt (wipeD ρ vs) (xs.drop (i + 1)) q5 with
        | ok r q6 =>
          rw [hr] at h5
          have h6 : Post X.K C.S (fun cls d H' => W cls d σ H') F1 H1 (RN X.K C.S H) (lcEnd (acc ++ [y]) r q6) Q := h5
          unfold lcEnd at h6
          split at h6
          · rename_i hl
            rw [List.length_append] at hl
            have : ws.length + 1 ≤ 100000 := by
              rw [List.length_append] at la
              simp at la
              simp at hl
              omega
            exact Nat.lt_of_lt_of_le (by omega) (line5 (Nat.le_refl _))
          · exact h6.elim
        | exc c fs q6 =>
          exact absurd hr lcM_exc
        | bad => rw [hr] at h5; exact h5.elim
  · have ei : i = xs.length := by omega
    subst ei
    rw [List.drop_length] at h2
    have h2' : Post X.K C.S (fun cls d H' => W cls d σ H') F1 H1 (RN X.K C.S H) (lcEnd acc [] q2) Q := h2
    obtain ⟨hl, h3⟩ := lcEnd_nil h2'
    exact .inl ⟨wk.stop F2 H2 q2 w2 gg, h3 _ F2 H2 e2 w2 ⟨Dd, acc, ws, rfl, rfl, h0, fD, hD2, r2⟩⟩
theorem dn_lc {t : Tg} {gi : DEnv → M (List D)} {test : DEnv → M Bool} {elt : DEnv → M D} {el tg iter : Expr} {ifs : List Expr} {scope : Scope} {pos : Pos} (own : List (Str × Nat)) (hc : X.calm = true) (hN : X.N.Nodup) (hi : PI X tg iter (tI X.K C W gi)) (ok : BlkOk X.N X.env.scope scope own)
    (ho : ∀ i ∈ t.slots, C.own i = false) (hv : ∀ i ∈ t.slots, i ∈ own.map (·.2))
    (hg : ∀ (s : Shared) (H : Hp) (C' : Addr) (cl : List (Str × Addr)) (fp : List Addr), PG (X.blk s H scope (compEnvC scope cl C' X.env) fp) tg (gT X.K t))
    (ht : ∀ (s : Shared) (H : Hp) (C' : Addr) (cl : List (Str × Addr)) (fp : List Addr), PTs (X.blk s H scope (compEnvC scope cl C' X.env) fp) ifs (tT X.K C W0 test))
    (he : ∀ (s : Shared) (H : Hp) (C' : Addr) (cl : List (Str × Addr)) (fp : List Addr), PE (X.blk s H scope (compEnvC scope cl C' X.env) fp) el (tE X.K C W0 elt)) (hs : ∀ x, foldedSetIterable iter X.env x = pure x := by intro _; rfl) :
    PE X (.ListComp el [⟨tg, iter, ifs, 0⟩] scope pos) (tN X.K C W (gLc (own.map (·.2)) gi t test elt)) :=
  pe_imp (pe_lc hc hN hi ok hg ht he hs) fun _ _ _ h => t_lc ho hv h
end
end Dl
namespace Dl
open PySem PySem.Spec PyProof.Rows L2

/-! ### statements -/
inductive Rs where
  | nx (ρ : DEnv) (q : PenS) | rt (d : D) (q : PenS) | bk (ρ : DEnv) (q : PenS) | ct (ρ : DEnv) (q : PenS)
  | exc (c : Str) (fs : List (Str × D)) (q : PenS) | bad
abbrev MS := DEnv → PenS → Rs
def Rz.st {α : Type} (r : Rz α) (f : α → PenS → Rs) : Rs := match r with
  | .ok a q => f a q
  | .exc c fs q => .exc c fs q
  | .bad => .bad
@[simp] theorem st_ok {α : Type} (a : α) (q : PenS) (f : α → PenS → Rs) : (Rz.ok a q).st f = f a q := rfl
@[simp] theorem st_exc {α : Type} (c : Str) (fs : List (Str × D)) (q : PenS) (f : α → PenS → Rs) : (Rz.exc c fs q).st f = .exc c fs q := rfl
@[simp] theorem st_bad {α : Type} (f : α → PenS → Rs) : (Rz.bad).st f = .bad := rfl
def Rs.sq (r : Rs) (f : MS) : Rs := match r with
  | .nx ρ q => f ρ q
  | r => r
@[simp] theorem sq_nx (ρ : DEnv) (q : PenS) (f : MS) : (Rs.nx ρ q).sq f = f ρ q := rfl
@[simp] theorem sq_rt (d : D) (q : PenS) (f : MS) : (Rs.rt d q).sq f = .rt d q := rfl
@[simp] theorem sq_bk (ρ : DEnv) (q : PenS) (f : MS) : (Rs.bk ρ q).sq f = .bk ρ q := rfl
@[simp] theorem sq_ct (ρ : DEnv) (q : PenS) (f : MS) : (Rs.ct ρ q).sq f = .ct ρ q := rfl
@[simp] theorem sq_exc (c : Str) (fs : List (Str × D)) (q : PenS) (f : MS) : (Rs.exc c fs q).sq f = .exc c fs q := rfl
@[simp] theorem sq_bad (f : MS) : (Rs.bad).sq f = .bad := rfl
def sNext : MS := fun ρ q => .nx ρ q
def sBrk : MS := fun ρ q => .bk ρ q
def sCnt : MS := fun ρ q => .ct ρ q
def sSeq (a b : MS) : MS := fun ρ q => (a ρ q).sq b
def sSet (i : Nat) (g : DEnv → M D) : MS := fun ρ q => (g ρ q).st fun d q1 => .nx (ρ.set i (some d)) q1
def sRet (g : DEnv → M D) : MS := fun ρ q => (g ρ q).st fun d q1 => .rt d q1
def sIf (t : DEnv → M Bool) (a b : MS) : MS := fun ρ q => (t ρ q).st fun c q1 => if c = true then a ρ q1 else b ρ q1
def sExpr (g : DEnv → M D) : MS := fun ρ q => (g ρ q).st fun _ q1 => .nx ρ q1
def sTg (t : Tg) (g : DEnv → M D) : MS := fun ρ q => (g ρ q).st fun d q1 => match tgD t d ρ with
  | some ρ1 => .nx ρ1 q1
  | none => .bad
def sPar (i j : Nat) (g h : DEnv → M D) : MS := fun ρ q => (g ρ q).st fun d q1 => (h ρ q1).st fun e q2 => .nx ((ρ.set i (some d)).set j (some e)) q2
def forL (t : Tg) (b : MS) : List D → MS
  | [] => fun ρ q => .nx ρ q
  | x :: xs => fun ρ q => match tgD t x ρ with
    | none => .bad
    | some ρ1 => match b ρ1 q with
      | .nx ρ2 q2 => forL t b xs ρ2 q2
      | .ct ρ2 q2 => forL t b xs ρ2 q2
      | .bk ρ2 q2 => .nx ρ2 q2
      | .rt d q2 => .rt d q2
      | .exc c fs q2 => .exc c fs q2
      | .bad => .bad
def sFor (t : Tg) (gi : DEnv → M (List D)) (b : MS) : MS := fun ρ q => (gi ρ q).st fun xs q1 => forL t b xs ρ q1
def whileN (t : DEnv → M Bool) (b : MS) : Nat → MS
  | 0 => fun _ _ => .bad
  | n + 1 => fun ρ q => (t ρ q).st fun c q1 => if c = true then (match b ρ q1 with
      | .nx ρ2 q2 => whileN t b n ρ2 q2
      | .ct ρ2 q2 => whileN t b n ρ2 q2
      | .bk ρ2 q2 => .nx ρ2 q2
      | .rt d q2 => .rt d q2
      | .exc c fs q2 => .exc c fs q2
      | .bad => .bad) else .nx ρ q1
/-- xs.append(e), xs in the own slot i -/
def sApp (i : Nat) (g : DEnv → M D) : MS := fun ρ q => match ρ[i]? with
  | some (some (.lst xs)) => (g ρ q).st fun d q1 => if xs.length < 100000 then .nx (ρ.set i (some (.lst (xs ++ [d])))) q1 else .bad
  | _ => .bad
/-- xs[j] = e -/
def sPut (i : Nat) (gj g : DEnv → M D) : MS := fun ρ q => match ρ[i]? with
  | some (some (.lst xs)) => (g ρ q).st fun d q1 => (gj ρ q1).st fun k q2 => match k with
    | .int n => (match ixN xs.length n with
      | some j => .nx (ρ.set i (some (.lst (xs.set j d)))) q2
      | none => .bad)
    | _ => .bad
  | _ => .bad
def PostS (K : PySem.W.Frag) (C : Fx) (W : WX) (F : Hp) (r : Rs) (D : Ends) : Prop :=
  match r with
  | .nx ρ q => ∀ σ F' H', (∀ a o, F a = some o → F' a = some o) → StR K C ρ q F' σ H' → D.nx σ H'
  | .bk ρ q => ∀ σ F' H', (∀ a o, F a = some o → F' a = some o) → StR K C ρ q F' σ H' → D.bk σ H'
  | .ct ρ q => ∀ σ F' H', (∀ a o, F a = some o → F' a = some o) → StR K C ρ q F' σ H' → D.ct σ H'
  | .rt d q => ∀ v F' H', Ev C.S C.F0 C.H0 F' H' → Wf C.S q F' H' → Rep K C.S F' d v → D.rt v H'
  | .exc c fs q => ∀ cls dd σ F' H', Ev C.S C.F0 C.H0 F' H' → Wf C.S q F' H' → ExcR K C.S F' H' c fs cls dd → W cls dd σ H'
  | .bad => False
def tS (K : PySem.W.Frag) (C : Fx) (W : WX) (g : MS) : TS := fun D σ H => ∃ ρ q F, StR K C ρ q F σ H ∧ PostS K C W F (g ρ q) D
theorem PostS.up {K : PySem.W.Frag} {C : Fx} {W : WX} {F F1 : Hp} {r : Rs} {D : Ends} (e : ∀ a o, F a = some o → F1 a = some o) (h : PostS K C W F r D) : PostS K C W F1 r D := by
  cases r with
  | nx ρ q => exact fun σ F' H' k s => h σ F' H' (fun a o z => k a o (e a o z)) s
  | bk ρ q => exact fun σ F' H' k s => h σ F' H' (fun a o z => k a o (e a o z)) s
  | ct ρ q => exact fun σ F' H' k s => h σ F' H' (fun a o z => k a o (e a o z)) s
  | rt d q => exact h
  | exc c fs q => exact h
  | bad => exact h
section
variable {K : PySem.W.Frag} {C : Fx} {W : WX} {α β : Type}
/-- an expression ahead of a statement's end -/
theorem PostS.seq {F H : Hp} {ρ : DEnv} {q : PenS} {σ : L2.St} {R1 : Hp → Hp → α → β → Prop} {r : Rz α} {f : α → PenS → Rs} {D : Ends} {Q' : β → Hp → Prop} (s : StR K C ρ q F σ H) (h : PostS K C W F (r.st f) D)
    (k : ∀ a b q F1 H1, Ev C.S F H F1 H1 → StR K C ρ q F1 σ H1 → R1 F1 H1 a b → PostS K C W F1 (f a q) D → Q' b H1) : Post K C.S (fun cls d H' => W cls d σ H') F H R1 r Q' := by
  cases r with
  | ok a q1 => exact fun b F1 H1 ev wf rel => k a b q1 F1 H1 ev (s.step ev wf) rel (h.up ev.f)
  | exc c fs q1 => exact fun cls d F' H' e w x => h cls d σ F' H' (s.ev.trans e) w x
  | bad => exact h
end
section
variable {X : Cx} {C : Fx} {W : WX}
theorem dss_nil : PSs X [] (tS X.K C W sNext) := pss_imp pss_nil fun D σ H h => by
  obtain ⟨ρ, q, F, s, h⟩ := h
  exact h σ F H (fun _ _ e => e) s
theorem dss_cons {st : Stmt} {rest : List Stmt} {a b : MS} (h1 : PS X st (tS X.K C W a)) (h2 : PSs X rest (tS X.K C W b)) : PSs X (st :: rest) (tS X.K C W (sSeq a b)) := pss_imp (pss_cons h1 h2) fun D σ H h => by
  obtain ⟨ρ, q, F, s, h⟩ := h
  refine ⟨ρ, q, F, s, ?_⟩
  have h : PostS X.K C W F ((a ρ q).sq b) D := h
  cases e : a ρ q with
  | nx ρ1 q1 =>
    rw [e] at h
    exact fun σ1 F1 H1 k s1 => ⟨ρ1, q1, F1, s1, h.up k⟩
  | bk ρ1 q1 => rw [e] at h; exact h
  | ct ρ1 q1 => rw [e] at h; exact h
  | rt d q1 => rw [e] at h; exact h
  | exc c fs q1 => rw [e] at h; exact h
  | bad => rw [e] at h; exact h
theorem dss_one {st : Stmt} {a : MS} (h1 : PS X st (tS X.K C W a)) : PSs X [st] (tS X.K C W a) := pss_one h1
theorem ds_pass {pos : Pos} : PS X (.Pass pos) (tS X.K C W sNext) := ps_imp ps_pass fun D σ H h => by
  obtain ⟨ρ, q, F, s, h⟩ := h
  exact h σ F H (fun _ _ e => e) s
theorem ds_break {pos : Pos} : PS X (.Break pos) (tS X.K C W sBrk) := ps_imp ps_break fun D σ H h => by
  obtain ⟨ρ, q, F, s, h⟩ := h
  exact h σ F H (fun _ _ e => e) s
theorem ds_continue {pos : Pos} : PS X (.Continue pos) (tS X.K C W sCnt) := ps_imp ps_continue fun D σ H h => by
  obtain ⟨ρ, q, F, s, h⟩ := h
  exact h σ F H (fun _ _ e => e) s
theorem ds_doc {x : Str} {j : Nat} {pos pos' : Pos} : PS X (.Expr (.Constant (.str x) j pos) pos') (tS X.K C W sNext) := ps_imp ps_doc fun D σ H h => by
  obtain ⟨ρ, q, F, s, h⟩ := h
  exact h σ F H (fun _ _ e => e) s
theorem ds_ret {e : Expr} {g : DEnv → M D} {pos : Pos} (h : PE X e (tE X.K C W g)) : PS X (.Return (some e) pos) (tS X.K C W (sRet g)) := ps_imp (ps_ret h) fun D σ H h => by
  obtain ⟨ρ, q, F, s, h⟩ := h
  exact ⟨ρ, q, F, s, PostS.seq s h fun d v q1 F1 H1 e1 s1 r1 h1 => h1 v F1 H1 s1.ev s1.wf r1⟩
theorem ds_retN {pos : Pos} : PS X (.Return none pos) (tS X.K C W (sRet (gC .non))) := ps_imp ps_retN fun D σ H h => by
  obtain ⟨ρ, q, F, s, h⟩ := h
  exact h .non F H s.ev s.wf .non
/-- an own list -/
def gLst (i : Nat) : DEnv → M D := fun ρ q => match ρ[i]? with
  | some (some (.lst xs)) => .ok (.lst xs) q
  | _ => .bad
/-- an own list is handed back -/
theorem ds_retO {x : Str} {p pos : Pos} (i : Nat) (ho : C.own i = true) (hN : X.N[i]? = some x := by rfl) (hv : Vis X.env.scope x := by first | exact Or.inl rfl | exact Or.inr (Or.inl rfl) | exact Or.inr (Or.inr rfl)) (hd : (x == ("__debug__" : Str)) = false := by decide)
    (hcd : (x == ("__classdict__" : Str)) = false := by decide) : PS X (.Return (some (.Name x p)) pos) (tS X.K C W (sRet (gLst i))) := ps_imp (ps_ret (pe_var hN hv hd hcd)) fun D σ H h => by
  obtain ⟨ρ, q, F, s, h⟩ := h
  unfold sRet gLst at h
  cases e : ρ[i]? with
  | none => rw [e] at h; exact h.elim
  | some o =>
    rw [e] at h
    cases o with
    | none => exact h.elim
    | some d =>
      obtain ⟨v, h1, h2⟩ := s.env.val i d e
      unfold SlotR at h2
      rw [if_pos ho] at h2
      obtain ⟨a, o, rfl, f0, h0, ha, r⟩ := h2
      refine ⟨_, h1, ?_⟩
      cases r with
      | dct k r => exact h.elim
      | lst r =>
      obtain ⟨e2, w2⟩ := fz_step s.ev s.wf h0 f0 ha (s.np h0).1
      refine h _ _ H e2 w2 (.lst upd_same (r.up fun b o hb => ?_))
      rw [upd_ne (fun z => by rw [z, f0] at hb; cases hb)]
      exact hb
theorem ds_set {x : Str} {e : Expr} {g : DEnv → M D} {pos pos' : Pos} (i : Nat) (ho : C.own i = false) (hN : X.N.Nodup) (he : PE X e (tE X.K C W g)) (hi : X.N[i]? = some x := by rfl) (hx : Loc X.env.scope x := by first | exact .inl rfl | exact .inr rfl) (hs : swapsWith e (some (.Name x pos')) pos.line X.env = pure false := by rfl)
    (hf : X.fn x = true ∨ X.env.scope.names.lookup x = some .local := by first | exact .inl rfl | exact .inr rfl | assumption) : PS X (.Assign [.Name x pos'] e pos) (tS X.K C W (sSet i g)) := ps_imp (ps_set hN hi hx he hs hf) fun D σ H h => by
  obtain ⟨ρ, q, F, s, h⟩ := h
  exact ⟨ρ, q, F, s, PostS.seq s h fun d v q1 F1 H1 e1 s1 r1 h1 => h1 _ F1 H1 (fun _ _ e => e) (s1.set ho r1)⟩
theorem setN {σ : L2.St} {H : Hp} {g : DEnv → M D} {D : Ends} {i : Nat} (ho : C.own i = true) (h : tS X.K C W (sSet i g) D σ H) : tN X.K C W g σ H fun v H1 => D.nx (σ.set i (some v)) H1 := by
  obtain ⟨ρ, q, F, s, h⟩ := h
  refine ⟨ρ, q, F, s, PostS.seq s h fun d v q1 F1 H1 e1 s1 r1 h1 => ?_⟩
  obtain ⟨a, xs, vs, rfl, rfl, h0, f0, ha, r⟩ := r1
  have n0 : C.H0 a = none := by
    cases z : C.H0 a with
    | none => rfl
    | some o => exact absurd h0 (s.ev.k a (by rw [z]; simp))
  refine h1 _ F1 H1 (fun _ _ e => e) (s1.setO ho f0 n0 ha (.lst r) fun j d hj oj hd z => ?_)
  obtain ⟨v, k1, k2⟩ := s.env.val j d hd
  rw [z] at k1
  cases k1
  unfold SlotR at k2
  rw [if_pos oj] at k2
  obtain ⟨b, ob, e2, _, _, hb, _⟩ := k2
  cases e2
  rw [h0] at hb
  cases hb
/-- a new list goes into an own slot -/
theorem ds_setN {x : Str} {e : Expr} {g : DEnv → M D} {pos pos' : Pos} (i : Nat) (ho : C.own i = true) (hN : X.N.Nodup) (he : PE X e (tN X.K C W g)) (hi : X.N[i]? = some x := by rfl) (hx : Loc X.env.scope x := by first | exact .inl rfl | exact .inr rfl) (hs : swapsWith e (some (.Name x pos')) pos.line X.env = pure false := by rfl)
    (hf : X.fn x = true ∨ X.env.scope.names.lookup x = some .local := by first | exact .inl rfl | exact .inr rfl | assumption) : PS X (.Assign [.Name x pos'] e pos) (tS X.K C W (sSet i g)) := ps_imp (ps_set hN hi hx he hs hf) fun D σ H h => setN ho h
theorem setF {σ : L2.St} {H : Hp} {g : DEnv → M D} {D : Ends} {i : Nat} (ho : C.own i = false) (h : tS X.K C W (sSet i g) D σ H) : tE X.K C W g σ H fun v H1 => D.nx (σ.set i (some v)) H1 := by
  obtain ⟨ρ, q, F, s, h⟩ := h
  exact ⟨ρ, q, F, s, PostS.seq s h fun d v q1 F1 H1 e1 s1 r1 h1 => h1 _ F1 H1 (fun _ _ e => e) (s1.set ho r1)⟩
theorem tE_N {σ : L2.St} {H : Hp} {g : DEnv → M D} {Q : VK} (h : tE X.K C W g σ H Q) : tN X.K C W g σ H Q := by
  obtain ⟨ρ, q, F, s, h⟩ := h
  refine ⟨ρ, q, F, s, ?_⟩
  cases hr : g ρ q with
  | ok d q1 =>
    rw [hr] at h
    rintro v F' H' e w ⟨a, xs, vs, rfl, rfl, h0, f0, ha, r⟩
    have np : a ≠ C.S.p := fun z => by
      have := s.wf.pen
      rw [← z, h0] at this
      cases this
    obtain ⟨e2, w2⟩ := fz_step e w h0 f0 ha np
    refine h _ _ H' e2 w2 (.lst upd_same (r.up fun b o hb => ?_))
    rw [upd_ne (fun z => by rw [z, f0] at hb; cases hb)]
    exact hb
  | exc c fs q1 => rw [hr] at h; exact h
  | bad => rw [hr] at h; exact h
/-- name = [..] on one line -/
theorem ds_setLc {t : Tg} {gi : DEnv → M (List D)} {test : DEnv → M Bool} {elt : DEnv → M D} {y : Str} {py : Pos} {el tg iter : Expr} {ifs : List Expr} {scope : Scope} {pos spos : Pos} (i : Nat) (own : List (Str × Nat)) (hc : X.calm = true) (hN : X.N.Nodup)
    (hsw : swapsWith (.ListComp el [⟨tg, iter, ifs, 0⟩] scope pos) (some (.Name y py)) spos.line X.env = pure true) (hi : PI X tg iter (tI X.K C W gi)) (ok : BlkOk X.N X.env.scope scope own)
    (ho : ∀ i ∈ t.slots, C.own i = false) (hv : ∀ i ∈ t.slots, i ∈ own.map (·.2))
    (hg : ∀ (s : Shared) (H : Hp) (C' : Addr) (cl : List (Str × Addr)) (fp : List Addr), PG (X.blk s H scope (compEnvC scope cl C' X.env) fp) tg (gT X.K t))
    (ht : ∀ (s : Shared) (H : Hp) (C' : Addr) (cl : List (Str × Addr)) (fp : List Addr), PTs (X.blk s H scope (compEnvC scope cl C' X.env) fp) ifs (tT X.K C W0 test))
    (he : ∀ (s : Shared) (H : Hp) (C' : Addr) (cl : List (Str × Addr)) (fp : List Addr), PE (X.blk s H scope (compEnvC scope cl C' X.env) fp) el (tE X.K C W0 elt))
    (hy : X.N[i]? = some y := by rfl) (hyl : X.env.scope.names.lookup y = some .local := by rfl) (hs : ∀ x, foldedSetIterable iter X.env x = pure x := by intro _; rfl) :
    PS X (.Assign [.Name y py] (.ListComp el [⟨tg, iter, ifs, 0⟩] scope pos) spos) (tS X.K C W (sSet i (gLc (own.map (·.2)) gi t test elt))) :=
  ps_imp (ps_setLc hc hN hy hyl hsw hi ok hg ht he hs) fun D σ H h => by
    cases hoi : C.own i with
    | true => exact t_lc ho hv (setN hoi h)
    | false => exact t_lc ho hv (tE_N (setF hoi h))
theorem ds_if {c : Expr} {a b : List Stmt} {t : DEnv → M Bool} {u v : MS} {pos : Pos} (hc : PT X c (tT X.K C W t)) (ha : PSs X a (tS X.K C W u)) (hb : PSs X b (tS X.K C W v)) : PS X (.If c a b pos) (tS X.K C W (sIf t u v)) := ps_imp (ps_if hc ha hb) fun D σ H h => by
  obtain ⟨ρ, q, F, s, h⟩ := h
  refine ⟨ρ, q, F, s, PostS.seq s h fun d x q1 F1 H1 e1 s1 r1 h1 => ?_⟩
  subst r1
  cases x with
  | true => exact ⟨ρ, q1, F1, s1, h1⟩
  | false => exact ⟨ρ, q1, F1, s1, h1⟩
theorem ds_expr {e : Expr} {g : DEnv → M D} {pos : Pos} (h : PE X e (tE X.K C W g)) (hs : swapsWith e none pos.line X.env = pure false := by rfl) : PS X (.Expr e pos) (tS X.K C W (sExpr g)) := ps_imp (ps_expr h hs) fun D σ H h => by
  obtain ⟨ρ, q, F, s, h⟩ := h
  exact ⟨ρ, q, F, s, PostS.seq s h fun d v q1 F1 H1 e1 s1 r1 h1 => h1 _ F1 H1 (fun _ _ e => e) s1⟩
/-- a target of names -/
theorem ds_tg {tg e : Expr} {t : Tg} {g : DEnv → M D} {pos : Pos} (ho : ∀ i ∈ t.slots, C.own i = false) (he : PE X e (tE X.K C W g)) (hg : PG X tg (gT X.K t)) (hs : swapsWithSole [tg] e pos.line X.env = pure false := by rfl) (hw : swappedStores [tg] e X.env = pure none := by rfl)
    (h1 : (assignEach [tg] X.env).map (·.2) = [assign tg X.env] := by rfl) : PS X (.Assign [tg] e pos) (tS X.K C W (sTg t g)) := ps_imp (ps_asg he hg hs hw h1) fun D σ H h => by
  obtain ⟨ρ, q, F, s, h⟩ := h
  refine ⟨ρ, q, F, s, PostS.seq s h fun d v q1 F1 H1 e1 s1 r1 h1 => ?_⟩
  cases ht : tgD t d ρ with
  | none => rw [ht] at h1; exact h1.elim
  | some ρ1 =>
    rw [ht] at h1
    exact tg_ok (vs := []) s1 ho r1 ht fun σ' s' _ => h1 σ' F1 H1 (fun _ _ e => e) s'
theorem ds_par {i j : Nat} {x y : Str} {a b : Expr} {g h : DEnv → M D} {px py pt pos : Pos} {kt k2 : Nat} {pt2 : Pos} (oi : C.own i = false) (oj : C.own j = false) (hc : X.calm = true) (hN : X.N.Nodup) (ha : PE X a (tE X.K C W g)) (hb : PE X b (tE X.K C W h)) (hij : i ≠ j := by decide)
    (hi : X.N[i]? = some x := by rfl) (hj : X.N[j]? = some y := by rfl) (hx : X.env.scope.names.lookup x = some .local := by rfl) (hy : X.env.scope.names.lookup y = some .local := by rfl)
    (hw : swappedStores [.Tuple [.Name x px, .Name y py] kt pt] (.Tuple [a, b] k2 pt2) X.env = pure (some [x, y]) := by rfl)
    (hs : swapsWithSole [.Tuple [.Name x px, .Name y py] kt pt] (.Tuple [a, b] k2 pt2) pos.line X.env = pure false := by rfl) (h1 : starEach (a :: [b]) X.env = (false, eval a X.env) :: starEach [b] X.env := by rfl) (h2 : starEach (b :: []) X.env = (false, eval b X.env) :: starEach [] X.env := by rfl) :
    PS X (.Assign [.Tuple [.Name x px, .Name y py] kt pt] (.Tuple [a, b] k2 pt2) pos) (tS X.K C W (sPar i j g h)) := ps_imp (ps_par hc hN hi hj hij hx hy (pa_cons ha (pa_cons hb pa_nil h2) h1) hw hs) fun D σ H h => by
  obtain ⟨ρ, q, F, s, h⟩ := h
  refine ⟨ρ, q, F, s, PostS.seq s h fun d v q1 F1 H1 e1 s1 r1 h1 => ?_⟩
  refine ⟨ρ, q1, F1, s1, PostS.seq s1 h1 fun d2 v2 q2 F2 H2 e2 s2 r2 h2 => ?_⟩
  exact ⟨v, v2, rfl, h2 _ F2 H2 (fun _ _ e => e) ((s2.set oi (r1.up e2.f)).set oj r2)⟩

/-! ### loops -/
theorem ds_for {tg iter : Expr} {body : List Stmt} {t : Tg} {gi : DEnv → M (List D)} {b : MS} {pos : Pos} (hp : PassesOwn (model X.prog X.w) X.A X.env X.xe) (hc : X.calm = true) (ho : ∀ i ∈ t.slots, C.own i = false) (hi : PI X tg iter (tIf X.K C W gi)) (hg : PG X tg (gT X.K t)) (hb : PSs X body (tS X.K C W b))
    (hs : ∀ x, foldedSetIterable iter X.env x = pure x := by intro _; rfl) : PS X (.For tg iter body [] pos) (tS X.K C W (sFor t gi b)) := ps_imp (ps_for hp hc hi hg hb hs) fun D σ H h => by
  obtain ⟨ρ, q, F, s, h⟩ := h
  refine ⟨ρ, q, F, s, PostS.seq s h fun xs J q1 F1 H1 e1 s1 r1 h1 => ?_⟩
  obtain ⟨G, wk, gs⟩ := r1
  refine ⟨fun i m σ2 H2 => m = xs.length - i ∧ i ≤ xs.length ∧ ∃ ρ2 q2 F2, (∀ a o, F1 a = some o → F2 a = some o) ∧ StR X.K C ρ2 q2 F2 σ2 H2 ∧ PostS X.K C W F2 (forL t b (xs.drop i) ρ2 q2) D, ⟨_, rfl, Nat.zero_le _, ρ, q1, F1, fun _ _ e => e, s1, by rw [List.drop_zero]; exact h1⟩, ?_⟩
  rintro i m σ2 H2 ⟨rfl, hi, ρ2, q2, F2, k2, s2, h2⟩
  have gg : G F2 H2 := gs F2 H2 k2 ⟨q2, s2.wf⟩
  by_cases hlt : i < xs.length
  · refine .inr ⟨wk.go i F2 H2 q2 hlt s2.wf gg, fun σ' H' => ∃ ρ2 q2 F2, (∀ a o, F1 a = some o → F2 a = some o) ∧ StR X.K C ρ2 q2 F2 σ' H' ∧ PostS X.K C W F2 (forL t b (xs.drop (i + 1)) ρ2 q2) D, fun σ' H' p' => ⟨xs.length - (i + 1), by omega, rfl, hlt, p'⟩, fun x H3 y => ?_⟩
    obtain ⟨F3, d, e3, w3, hd, rd⟩ := wk.yld i F2 H2 q2 x H3 hlt s2.wf gg y
    have hdr : xs.drop i = d :: xs.drop (i + 1) := by
      have h5 : xs[i]? = some xs[i] := by simp [hlt]
      rw [h5] at hd
      rw [List.drop_eq_getElem_cons hlt, Option.some.inj hd]
    rw [hdr] at h2
    unfold forL at h2
    cases ht : tgD t d ρ2 with
    | none => rw [ht] at h2; exact h2.elim
    | some ρ3 =>
      rw [ht] at h2
      dsimp only at h2
      refine tg_ok (vs := []) (s2.step e3 w3) ho rd ht fun σ3 s3 _ => ⟨ρ3, q2, F3, s3, ?_⟩
      have k3 : ∀ a o, F1 a = some o → F3 a = some o := fun a o z => e3.f a o (k2 a o z)
      have h3 := h2.up e3.f
      cases eb : b ρ3 q2 with
      | nx ρ4 q4 =>
        rw [eb] at h3
        exact fun σ4 F4 H4 k4 s4 => ⟨ρ4, q4, F4, fun a o z => k4 a o (k3 a o z), s4, h3.up k4⟩
      | ct ρ4 q4 =>
        rw [eb] at h3
        exact fun σ4 F4 H4 k4 s4 => ⟨ρ4, q4, F4, fun a o z => k4 a o (k3 a o z), s4, h3.up k4⟩
      | bk ρ4 q4 => rw [eb] at h3; exact h3
      | rt d q4 => rw [eb] at h3; exact h3
      | exc c fs q4 => rw [eb] at h3; exact h3
      | bad => rw [eb] at h3; exact h3
  · have ei : i = xs.length := by omega
    subst ei
    rw [List.drop_length] at h2
    exact .inl ⟨wk.stop F2 H2 q2 s2.wf gg, h2 σ2 F2 H2 (fun _ _ e => e) s2⟩
theorem ds_while {c : Expr} {body : List Stmt} {t : DEnv → M Bool} {b : MS} {pos : Pos} (n : Nat) (hp : PassesOwn (model X.prog X.w) X.A X.env X.xe) (hc : PT X c (tT X.K C W t)) (hb : PSs X body (tS X.K C W b)) : PS X (.While c body [] pos) (tS X.K C W (whileN t b n)) := ps_imp (ps_while hp hc hb) fun D σ H h => by
  obtain ⟨ρ, q, F, s, h⟩ := h
  refine ⟨fun m σ2 H2 => ∃ ρ2 q2 F2, StR X.K C ρ2 q2 F2 σ2 H2 ∧ PostS X.K C W F2 (whileN t b m ρ2 q2) D, ⟨n, ρ, q, F, s, h⟩, ?_⟩
  rintro m σ2 H2 ⟨ρ2, q2, F2, s2, h2⟩
  cases m with
  | zero => exact h2.elim
  | succ m =>
    refine ⟨ρ2, q2, F2, s2, PostS.seq s2 h2 fun d x q3 F3 H3 e3 s3 r3 h3 => ?_⟩
    subst r3
    cases x with
    | false => exact h3 σ2 F3 H3 (fun _ _ e => e) s3
    | true =>
      rw [if_pos rfl] at h3 ⊢
      refine ⟨fun σ' H' => ∃ ρ2 q2 F2, StR X.K C ρ2 q2 F2 σ' H' ∧ PostS X.K C W F2 (whileN t b m ρ2 q2) D, fun σ' H' p' => ⟨m, Nat.lt_succ_self m, p'⟩, ρ2, q3, F3, s3, ?_⟩
      cases eb : b ρ2 q3 with
      | nx ρ4 q4 =>
        rw [eb] at h3
        exact fun σ4 F4 H4 k4 s4 => ⟨ρ4, q4, F4, s4, h3.up k4⟩
      | ct ρ4 q4 =>
        rw [eb] at h3
        exact fun σ4 F4 H4 k4 s4 => ⟨ρ4, q4, F4, s4, h3.up k4⟩
      | bk ρ4 q4 => rw [eb] at h3; exact h3
      | rt d q4 => rw [eb] at h3; exact h3
      | exc c fs q4 => rw [eb] at h3; exact h3
      | bad => rw [eb] at h3; exact h3
end
end Dl
namespace Dl
open PySem PySem.Spec PyProof.Rows L2

/-! ### a def's promise, told by a function -/
/-- u: it is to be called where nothing is under repr -/
structure FnG (u : Bool) (P : Program) (w : World) (K : PySem.W.Frag) (mg : Str → Option Value) (base : Heap) (k : Nat) (f : Addr) (fd : FuncData) (ps : List Str) (g : List D → M D) : Prop where
  run : ∀ (A : Around) (outer : List PySem.Env) (s : Shared) (H : Hp) (args : Args) (us : List Value) (vs : List V) (Q : VK) (E : XK) (S : Sx) (F : Hp) (ds : List D) (q : PenS), (u = true → A.guards = some []) → Room k A → Env0 P w K mg base A outer s H → BindsTo s fd args (ps.zip us) → Vals vs us →
    ds.length = ps.length → Wf S q F H → RepL K S F ds vs → Post K S E F H (RE K S) (g ds q) Q → codeAny (model P w) A (.call (.ref f) args) (CR (L2.CX P w) outer P w H s Q E) s
theorem FnG.mono {u : Bool} {P : Program} {w : World} {K : PySem.W.Frag} {mg : Str → Option Value} {base : Heap} {j k : Nat} {f : Addr} {fd : FuncData} {ps : List Str} {g : List D → M D} (G : FnG u P w K mg base j f fd ps g) (h : j ≤ k) : FnG u P w K mg base k f fd ps g :=
  ⟨fun A outer s H args us vs Q E S F ds q hg hr => G.run A outer s H args us vs Q E S F ds q hg (hr.mono h)⟩
def startD (n : Nat) (ds : List D) : DEnv := ds.map some ++ List.replicate (n - ds.length) none
def runD (n : Nat) (b : MS) : List D → M D := fun ds q => match b (startD n ds) q with
  | .nx _ q1 => .ok .non q1
  | .rt d q1 => .ok d q1
  | .exc c fs q1 => .exc c fs q1
  | _ => .bad
theorem start_ok {K : PySem.W.Frag} {C : Fx} {q : PenS} {N : List Str} {ds : List D} {vs : List V} (w : Wf C.S q C.F0 C.H0) (r : RepL K C.S C.F0 ds vs) (hl : ds.length ≤ N.length) (ho : ∀ i, i < ds.length → C.own i = false) : StR K C (startD N.length ds) q C.F0 (L2.start N vs) C.H0 := by
  have hv := r.length
  have atD : ∀ {i : Nat} {d : D}, (startD N.length ds)[i]? = some (some d) → i < ds.length ∧ ds[i]? = some d := fun {i d} h => by
    unfold startD at h
    by_cases hi : i < ds.length
    · rw [List.getElem?_append_left (by simpa using hi), List.getElem?_map] at h
      refine ⟨hi, ?_⟩
      cases e : ds[i]? with
      | none => rw [e] at h; cases h
      | some x => rw [e] at h; exact Option.some.inj h
    · rw [List.getElem?_append_right (by simpa using hi), List.getElem?_replicate] at h
      split at h <;> cases h
  refine ⟨⟨q, w⟩, w, .refl, ?_, fun i d h => ?_, fun i j a _ oi _ ⟨d, h⟩ _ _ _ => ?_⟩
  · unfold startD L2.start
    rw [List.length_append, List.length_append, List.length_map, List.length_map, List.length_replicate, List.length_replicate, hv]
  · obtain ⟨hi, h⟩ := atD h
    obtain ⟨v, h1, h2⟩ := r.get h
    refine ⟨v, ?_, ?_⟩
    · unfold L2.start
      rw [List.getElem?_append_left (by rw [List.length_map, hv]; exact hi), List.getElem?_map, h1]
      rfl
    · unfold SlotR
      rw [if_neg (by rw [ho i hi]; decide)]
      exact h2
  · obtain ⟨hi, _⟩ := atD h
    rw [ho i hi] at oi
    cases oi
section
variable {P : Program} {w : World} {K : PySem.W.Frag} {mg : Str → Option Value} {base : Heap} {x qual : Str} {params : Arguments} {body : List Stmt} {scope : Scope} {f : Addr} {fd : FuncData}
/-- what a body's proof may lean on -/
structure Bd (u : Bool) (X : Cx) (k : Nat) (W : WX) : Prop where
  gd : u = true → X.A.guards = some []
  hr : Room k X.A
  tk : Takes X W
  hp : PassesOwn (model X.prog X.w) X.A X.env X.xe
  hc : X.calm = true
theorem fnG_of {u : Bool} {N ps : List Str} {k : Nat} {g : MS} (own : Nat → Bool) (Fu : FunD K x qual params body scope [] [] f fd) (Sc : FnScope N ps scope) (ho : ∀ i, i < ps.length → own i = false)
    (hbody : ∀ (cdv : Value) (A : Around) (outer : List PySem.Env) (s : Shared) (H : Hp) (E : XK) (S : Sx) (F : Hp), Bd u (cxOf (L2.CX P w) P w K mg base N qual scope f cdv A outer s H E) k (fun cls d _ H' => E cls d H') →
      PSs (cxOf (L2.CX P w) P w K mg base N qual scope f cdv A outer s H E) body (tS K ⟨S, F, H, own⟩ (fun cls d _ H' => E cls d H') g)) : FnG u P w K mg base (k + 1) f fd ps (runD N.length g) := by
  obtain ⟨oc, od, dV, kV, doc, pm, an, cdv, ct, osl, rfl, lk, hcd, _, _⟩ := Fu.ex
  refine ⟨fun A outer s H args us vs Q E S F ds q hg hr e0 hb rv hl wf rep post => ?_⟩
  have hpl : ps.length ≤ N.length := by
    have := congrArg List.length Sc.pre
    rw [List.length_take] at this
    omega
  have hvs : vs.length = ps.length := by rw [rep.length]; exact hl
  refine LamX.run_ofS (CX := L2.CX P w) lk hcd Sc hr e0 hb rv hvs fun hr' => ⟨_, hbody cdv A outer s H E S F ⟨hg, hr', takes_of rfl rfl rfl rfl, passes_of rfl, rfl⟩, ?_⟩
  refine ⟨startD N.length ds, q, F, start_ok (C := ⟨S, F, H, own⟩) wf rep (by omega) (fun i hi => ho i (by omega)), ?_⟩
  unfold runD at post
  cases e : g (startD N.length ds) q with
  | nx ρ q1 =>
    rw [e] at post
    exact fun σ F' H' _ s' => post .non F' H' s'.ev s'.wf .non
  | rt d q1 =>
    rw [e] at post
    exact fun v F' H' ev wf r => post v F' H' ev wf r
  | bk ρ q1 => rw [e] at post; exact post.elim
  | ct ρ q1 => rw [e] at post; exact post.elim
  | exc c fs q1 =>
    rw [e] at post
    exact fun cls dd σ F' H' ev wf r => post cls dd F' H' ev wf r
  | bad => rw [e] at post; exact post.elim
end
section
variable {X : Cx} {C : Fx} {W : WX}
theorem cx_pass (tk : Takes X W) (σ : L2.St) {pins : List (Addr × Obj)} {H : Hp} {s s' : Shared} {e : Value} (I : Inv X pins σ H s) (c : L2.CX X.prog X.w X.stack H s (fun cls d H' => W cls d σ H') e s') : X.xe e s' := tk e s' (XE.of_call I (fun _ _ _ h => h) c)
/-- f(e, ..), f a def of the text -/
theorem de_call {u : Bool} {k : Nat} {f : Addr} {fd : FuncData} {ps : List Str} {g : List D → M D} {gs : DEnv → M (List D)} {x : Str} {e : Expr} {es : List Expr} {p pos : Pos} (G : FnG u X.prog X.w X.K X.mg X.base k f fd ps g) (gd : u = true → X.A.guards = some []) (hr : Room k X.A) (tk : Takes X W)
    (hm : X.mg x = some (.ref f)) (hk : PySem.W.keepIn X.K (.ref f) = true) (hb : Binds X.K fd ps []) (ha : PA X (e :: es) (tA X.K C W gs)) (hg : Gl X x := by rfl) (hdb : (x == ("__debug__" : Str)) = false := by decide)
    (he : starEach (e :: es) X.env = (false, eval e X.env) :: starEach es X.env := by rfl) (hpl : (backTo pos (starEach es X.env)).any (·.1) = false := by rfl) : PE X (.Call (.Name x p) (e :: es) [] pos) (tE X.K C W (gCall ps.length g gs)) := by
  refine ⟨fun pins s σ H Q I h => ?_⟩
  refine wpAny_Call_Name_kw (ld_glob I hg hm ?_ hdb)
  obtain ⟨ρ, q, F, st, h⟩ := h
  have ht : tA X.K C W gs σ H fun vs H1 => ∃ ds q1 F1, ds.length = ps.length ∧ Wf C.S q1 F1 H1 ∧ RepL X.K C.S F1 ds vs ∧ Post X.K C.S (fun cls d H' => W cls d σ H') F1 H1 (RE X.K C.S) (g ds q1) Q := by
    refine ⟨ρ, q, F, st, Post.seq h fun ds vs q1 F1 H1 e1 w1 r1 h1 => ?_⟩
    split at h1
    · rename_i hl
      exact ⟨ds, q1, F1, hl, w1, r1, h1⟩
    · exact h1.elim
  refine PySem.W.callWith_K (h₀ := X.base) I.ok.mod.kin hk (thn (ha.run pos pins s σ H _ I ht) fun us s1 ⟨vs, H1, I1, r, ds, q1, F1, hl, w1, r1, h1⟩ => ⟨I1.kIn, ?_⟩) he hpl
  have hus : (us ++ ([] : List Value)).length = ps.length := by
    rw [List.append_nil, ← r.length, r1.length]
    exact hl
  have hb' := hb s1 us I1.kIn hus
  rw [List.append_nil] at hb'
  refine wpAny_call (codeAny_mono (G.run X.A X.stack s1 H1 ⟨us, []⟩ us vs Q _ C.S F1 ds q1 gd hr I1.env0 hb' r hl w1 r1 h1) fun r s' hq => ?_)
  cases r with
  | error e => exact cx_pass tk σ I1 hq
  | ok fl =>
    cases fl with
    | ret u => exact I1.after hq
    | next => exact False.elim hq
    | brk => exact False.elim hq
    | cont => exact False.elim hq

/-! ### own lists changed in place -/
theorem own_at {ρ : DEnv} {q : PenS} {F : Hp} {σ : L2.St} {H : Hp} {i : Nat} {xs : List D} (s : StR X.K C ρ q F σ H) (ho : C.own i = true) (e : ρ[i]? = some (some (.lst xs))) :
    ∃ a vs, σ[i]? = some (some (.ref a)) ∧ H a = some (.lst vs) ∧ RepL X.K C.S F xs vs := by
  obtain ⟨v, h1, h2⟩ := s.env.val i _ e
  unfold SlotR at h2
  rw [if_pos ho] at h2
  obtain ⟨a, o, rfl, _, _, ha, r⟩ := h2
  cases r with
  | lst r => exact ⟨a, _, h1, ha, r⟩
theorem ds_app {x : Str} {e : Expr} {g : DEnv → M D} {p apos cpos pos : Pos} (i : Nat) (ho : C.own i = true) (he : PE X e (tE X.K C W g)) (hN : X.N[i]? = some x := by rfl) (hv : Vis X.env.scope x := by first | exact Or.inl rfl | exact Or.inr (Or.inl rfl) | exact Or.inr (Or.inr rfl)) (hd : (x == ("__debug__" : Str)) = false := by decide)
    (hcd : (x == ("__classdict__" : Str)) = false := by decide) (hbase : attributeBase (.Name x p) "append" X.env (eval (.Name x p) X.env) = eval (.Name x p) X.env := by rfl)
    (hfew : ((backTo cpos (starEach [e] X.env)).all (fun x => !x.1) && (backToKw cpos (keywordEach [] X.env)).all (fun x => x.1.isSome) && decide ([e].length + ([] : List Keyword).length + (if ([] : List Keyword).isEmpty then 0 else 1) < 30)) = true := by rfl)
    (hline : (apos.endLine == cpos.line) = true := by rfl) (hs : starEach [e] X.env = (false, eval e X.env) :: starEach [] X.env := by rfl) (hplain : (backTo cpos (starEach [] X.env)).any (·.1) = false := by rfl)
    (hsw : swapsWith (.Call (.Attribute (.Name x p) "append" apos) [e] [] cpos) none pos.line X.env = pure false := by rfl) :
    PS X (.Expr (.Call (.Attribute (.Name x p) "append" apos) [e] [] cpos) pos) (tS X.K C W (sApp i g)) :=
  ps_imp (ps_expr (pe_bm PySem.F.plainAttrs_list PySem.F.slot_list_append PySem.F.type_list_append mt_append (pe_var hN hv hd hcd) (pa_cons he pa_nil hs) hbase hfew hline hs hplain) hsw) fun D σ H h => by
    obtain ⟨ρ, q, F, s, h⟩ := h
    unfold sApp at h
    split at h
    · rename_i xs er
      obtain ⟨a, vs, h1, h2, h3⟩ := own_at s ho er
      refine ⟨.ref a, h1, .inl ⟨rfl, vs, SqL.of h2⟩, ρ, q, F, s, PostS.seq s h fun d v q1 F1 H1 e1 s1 r1 k1 => ?_⟩
      obtain ⟨a', vs1, g1, g2, g3⟩ := own_at s1 ho er
      rw [h1] at g1
      cases g1
      split at k1
      · rename_i hl
        exact ⟨a, vs1, v, rfl, rfl, g2, Nat.lt_of_lt_of_le (by rw [g3.length]; exact hl) (line5 (Nat.le_refl _)), k1 σ F1 _ (fun _ _ e => e) (s1.wr ho er h1 (.lst (g3.append (.one r1))))⟩
      · exact k1.elim
    · exact h.elim
theorem ds_put {x : Str} {j e : Expr} {gj g : DEnv → M D} {p spos pos : Pos} (i : Nat) (ho : C.own i = true) (hj : PE X j (tE X.K C W gj)) (he : PE X e (tE X.K C W g)) (hN : X.N[i]? = some x := by rfl) (hv : Vis X.env.scope x := by first | exact Or.inl rfl | exact Or.inr (Or.inl rfl) | exact Or.inr (Or.inr rfl)) (hd : (x == ("__debug__" : Str)) = false := by decide)
    (hcd : (x == ("__classdict__" : Str)) = false := by decide) (ha : ∀ v, assign (.Subscript (.Name x p) j spos) X.env v = (do
      let ov ← holding [v] (eval (.Name x p) X.env)
      let iv ← holding [v, ov] (eval j X.env)
      standAt spos
      holding [v, ov, iv] (setItem ov iv v)
      release [v, ov, iv] []) := by intro _; rfl) (hs : swapsWithSole [.Subscript (.Name x p) j spos] e pos.line X.env = pure false := by rfl) (hw : swappedStores [.Subscript (.Name x p) j spos] e X.env = pure none := by rfl)
    (h1 : (assignEach [.Subscript (.Name x p) j spos] X.env).map (·.2) = [assign (.Subscript (.Name x p) j spos) X.env] := by rfl) : PS X (.Assign [.Subscript (.Name x p) j spos] e pos) (tS X.K C W (sPut i gj g)) :=
  ps_imp (ps_asg he (pg_sub (pe_var hN hv hd hcd) hj set_list ha) hs hw h1) fun D σ H h => by
    obtain ⟨ρ, q, F, s, h⟩ := h
    unfold sPut at h
    split at h
    · rename_i xs er
      refine ⟨ρ, q, F, s, PostS.seq s h fun d v q1 F1 H1 e1 s1 r1 k1 => ?_⟩
      obtain ⟨a, vs, h1, h2, h3⟩ := own_at s1 ho er
      refine ⟨.ref a, h1, ρ, q1, F1, s1, PostS.seq s1 k1 fun k u q2 F2 H2 e2 s2 r2 k2 => ?_⟩
      obtain ⟨a', vs2, g1, g2, g3⟩ := own_at s2 ho er
      rw [h1] at g1
      cases g1
      cases k with
      | int n =>
        cases r2
        dsimp only at k2
        cases ei : ixN xs.length n with
        | none => rw [ei] at k2; exact k2.elim
        | some m =>
          rw [ei] at k2
          refine ⟨a, vs2, n, m, rfl, rfl, g2, by rw [g3.length]; exact ei, k2 σ F2 _ (fun _ _ e => e) (s2.wr ho er h1 (.lst (g3.set (r1.up e2.f) m)))⟩
      | _ => exact k2.elim
    · exact h.elim
end
end Dl
namespace Dl
open PySem PySem.Spec PyProof.Rows L2 RZ

/-! ### chains of comparisons -/
def gChain (f g : D → D → Option D) (a b c : DEnv → M D) : DEnv → M D := fun ρ => a ρ >>= fun x => b ρ >>= fun y => lift ((f x y).bind boolD) >>= fun k => if k = true then c ρ >>= fun z => lift (g y z) else lift (some (.bl false))
section
variable {X : Cx} {C : Fx} {W : WX}
theorem t_chain {f g : D → D → Option D} {a b c : DEnv → M D} {σ : L2.St} {H : Hp} {Q : VK} (h : tE X.K C W (gChain f g a b c) σ H Q) :
    tChain (rD2 X.K C.S f) (rD2 X.K C.S g) (tEb X.K C W a) (tEb X.K C W b) (tEb X.K C W c) σ H Q := by
  obtain ⟨ρ, q, F, s, h⟩ := h
  refine ⟨ρ, q, F, s, Post.seq h fun d x q1 F1 H1 e1 w1 r1 h1 => ?_⟩
  refine ⟨ρ, q1, F1, s.step e1 w1, Post.seq h1 fun e y q2 F2 H2 e2 w2 r2 h2 => ?_⟩
  refine ⟨q2, F2, d, e, w2, r1.up w1 e2, r2, ?_⟩
  cases hf : f d e with
  | none => rw [hf] at h2; exact h2.elim
  | some z =>
    cases z with
    | bl k =>
      rw [hf] at h2
      intro v F3 H3 e3 w3 r3
      cases r3
      refine ⟨k, rfl, ?_⟩
      cases k with
      | false =>
        rw [if_neg Bool.false_ne_true]
        exact h2 (.bl false) F3 H3 e3 w3 (.bl false)
      | true =>
        rw [if_pos rfl]
        have h3 : Post X.K C.S (fun cls d H' => W cls d σ H') F2 H2 (RE X.K C.S) ((c ρ q2).bd fun z => lift (g e z)) Q := h2
        have s3 := ((s.step e1 w1).step e2 w2).step e3 w3
        have key : Post X.K C.S (fun cls d H' => W cls d σ H') F3 H3 (RE X.K C.S) ((c ρ q2).bd fun z => lift (g e z)) Q := Post.ev e3 h3
        refine ⟨ρ, q2, F3, s3, Post.seq key fun z u q4 F4 H4 e4 w4 r4 h4 => ?_⟩
        exact ⟨q4, F4, e, z, w4, (r2.up w2 e3).up w3 e4, r4, h4.lift⟩
    | _ => rw [hf] at h2; exact h2.elim
theorem de_chain {op op' : CmpOp} {f g : D → D → Option D} {ga gb gc : DEnv → M D} {a b c : Expr} {pos : Pos} (ho : OpR X (compareOp op) (rD2 X.K C.S f)) (ho' : OpR X (compareOp op') (rD2 X.K C.S g)) (ha : PE X a (tEb X.K C W ga)) (hb : PE X b (tEb X.K C W gb)) (hc : PE X c (tEb X.K C W gc))
    (hm : lastMarks [op, op'] [b, c] = false := by with_unfolding_all rfl) : PE X (.Compare a [op, op'] [b, c] pos) (tE X.K C W (gChain f g ga gb gc)) := pe_imp (pe_chain ho ho' ha hb hc hm) fun _ _ _ => t_chain
theorem dt_chain {op op' : CmpOp} {f g : D → D → Option D} {ga gb gc : DEnv → M D} {a b c : Expr} {pos : Pos} (ho : OpR X (compareOp op) (rD2 X.K C.S f)) (ho' : OpR X (compareOp op') (rD2 X.K C.S g)) (ha : PE X a (tEb X.K C W ga)) (hb : PE X b (tEb X.K C W gb)) (hc : PE X c (tEb X.K C W gc))
    (hm : lastMarks [op, op'] [b, c] = false := by with_unfolding_all rfl) : PT X (.Compare a [op, op'] [b, c] pos) (tT X.K C W (g1 boolD (gChain f g ga gb gc))) := pt_imp (pt_chain ho ho' ha hb hc hm) fun σ H Q h => by
  refine t_chain (X := X) (C := C) (W := W) (Q := fun x H' => ∃ k, x = .bl k ∧ Q k H') ?_
  obtain ⟨ρ, q, F, s, h⟩ := h
  refine ⟨ρ, q, F, s, Post.seq h fun d x q1 F1 H1 e1 w1 r1 h1 => ?_⟩
  have h2 := h1.lift
  cases d with
  | bl b =>
    cases r1
    exact ⟨b, rfl, h2 b F1 H1 .refl w1 rfl⟩
  | _ => exact h2.elim

/-! ### slices of tuples -/
theorem cut_whole {xs : List D} {lo hi : Option Int} (h : HT.sIx xs.length 0 lo = 0 ∧ HT.sIx xs.length xs.length hi = xs.length) : cutD xs lo hi = xs := by
  unfold cutD
  rw [h.1, h.2, List.drop_zero, Nat.sub_zero, List.take_length]
theorem de_slT {ga : DEnv → M D} {gl gh : DEnv → M (Option Int)} {a : Expr} {lo hi : Option Expr} {p2 pos : Pos} (ha : PE X a (tEb X.K C W ga)) (hl : PO X lo (tO X.K C W gl)) (hh : PO X hi (tO X.K C W gh)) : PE X (.Subscript a (.Slice lo hi none p2) pos) (tE X.K C W (g3 slTD ga gl gh)) :=
  pe_imp (pe_slice sl_tupA ha hl hh) fun σ H Q h => by
    obtain ⟨ρ, q, F, s, h⟩ := h
    refine ⟨ρ, q, F, s, Post.seq h fun d x q1 F1 H1 e1 w1 r1 h1 => ?_⟩
    refine ⟨ρ, q1, F1, s.step e1 w1, Post.seq h1 fun l y q2 F2 H2 e2 w2 r2 h2 => ?_⟩
    refine ⟨ρ, q2, F2, (s.step e1 w1).step e2 w2, Post.seq h2 fun l2 y2 q3 F3 H3 e3 w3 r3 h3 => ?_⟩
    subst r2
    subst r3
    have h4 := h3.lift
    have r1' := (r1.up w1 e2).up w2 e3
    unfold slTD at h4
    split at h4
    · rename_i xs
      obtain ⟨p, vs, rfl, h5, t5⟩ := r1'.tup w3
      refine ⟨p, vs, rfl, h5.sq, fun hw => ?_, fun hw b hb => h4.newT w3 rfl (t5.cut _ _) hb⟩
      rw [t5.length] at hw
      have e0 := cut_whole hw
      cases r1' with
      | rep r => exact h4.same w3 (by rw [e0]) r
    · exact h4.elim
end
/-! ### t[::-1] -/
section
variable {prog : Program} {w : World} {A : Around} {E : Value → Shared → Prop} {s : Shared}
theorem back_places (n : Nat) : Builtin.Slice.slicePlaces ((n : Int) - 1) (-1) (-1) = n := by
  unfold Builtin.Slice.slicePlaces
  rw [if_neg (by decide : ¬ ((-1 : Int) > 0))]
  cases n with
  | zero => rfl
  | succ k =>
    rw [if_pos (by omega)]
    have : (((k + 1 : Nat) : Int) - 1 - -1 - 1) / (- -1) + 1 = ((k + 1 : Nat) : Int) := by
      rw [show ((- -1 : Int)) = 1 by decide, Int.ediv_one]
      omega
    rw [this, Int.toNat_natCast]
theorem fm_map {α β : Type} {g : α → Option β} {f : α → β} : ∀ {l : List α}, (∀ x ∈ l, g x = some (f x)) → l.filterMap g = l.map f
  | [], _ => rfl
  | x :: l, h => by
    rw [List.filterMap_cons, h x (List.mem_cons_self ..), List.map_cons, fm_map fun y hy => h y (List.mem_cons_of_mem _ hy)]
theorem back_pick (xs : Array Value) : ((List.range xs.size).filterMap fun (k : Nat) => xs[((xs.size : Int) - 1 + (k : Int) * (-1)).toNat]?).toArray = xs.toList.reverse.toArray := by
  congr 1
  rw [fm_map (f := fun k => xs.toList.reverse.getD k Value.none) fun k hk => ?_]
  · apply List.ext_getElem
    · simp
    · intro i h1 h2
      simp at h1 h2
      simp [h1]
  · have hk := List.mem_range.mp hk
    have e1 : ((xs.size : Int) - 1 + (k : Int) * (-1)).toNat = xs.size - 1 - k := by omega
    have hb : xs.size - 1 - k < xs.size := by omega
    have hk2 : k < xs.toList.length := by simpa using hk
    rw [e1, List.getD_eq_getElem?_getD, List.getElem?_reverse hk2]
    simp [hb]
theorem slicePart_m1 {v : Value} {Q : Option Int → Shared → Prop} (p : IsPart v (some (-1))) (h : Q (some (-1)) s) : wpAny (model prog w) A (Builtin.Slice.slicePartIndex v) Q E s := HT.slicePart_ p h
theorem sliceApplied_back {sl : Addr} {vs : Value} {n : Nat} {Q : Int × Int × Nat → Shared → Prop} (hs : s.heap.IsSliceOf sl .none .none vs) (ps : IsPart vs (some (-1))) (h : Q ((n : Int) - 1, -1, n) s) :
    wpAny (model prog w) A (Builtin.Slice.sliceApplied (.ref sl) (pure (n : Int))) Q E s := by
  obtain ⟨os, hos, hcs, hds⟩ := id hs
  unfold Builtin.Slice.sliceApplied Builtin.Slice.sliceFields
  refine wpAny_bind (wpAny_bind (wpAny_field hos hds (x := .none) rfl (wpAny_bind (wpAny_field hos hds (x := .none) rfl (wpAny_bind (wpAny_field hos hds (x := vs) rfl (wpAny_pure ?_)))))))
  refine wpAny_bind (slicePart_m1 ps ?_)
  show wpAny _ _ (if ((-1 : Int) == 0) = true then _ else _) _ _ s
  rw [if_neg (by decide)]
  refine wpAny_bind (slicePart_none (wpAny_bind (slicePart_none (wpAny_bind (wpAny_pure ?_)))))
  show wpAny _ _ (pure (((n : Int) - 1 : Int), (-1 : Int), Builtin.Slice.slicePlaces ((n : Int) - 1) (-1) (-1))) _ _ s
  rw [back_places]
  exact wpAny_pure h
theorem getItem_tuple_back {t sl : Addr} {items : Array Value} {vs : Value} {Q : Value → Shared → Prop} (ht : IsTup s.heap t items) (hs : s.heap.IsSliceOf sl .none .none vs) (ps : IsPart vs (some (-1)))
    (h : Q (.ref s.heap.objs.size) { s with heap := s.heap.push { cls := .type "tuple", data := .seq items.toList.reverse.toArray } }) (hsz : items.size ≤ sizeLine) : wpAny (model prog w) A (getItem (.ref t) (.ref sl)) Q E s := by
  have htake : sizeOk (.seq items.toList.reverse.toArray) := by
    show items.toList.reverse.toArray.size ≤ sizeLine
    rw [List.size_toArray, List.length_reverse, Array.length_toList]
    exact hsz
  obtain ⟨os, hos, hcs, hds⟩ := id hs
  have hTs : s.TypeIs (.ref sl) "slice" := ⟨os, hos, hcs⟩
  unfold getItem
  with_reducible refine wpAny_holding ?_
  refine wpAny_bind (wpAny_sequenceKey ht.typeIs (by decide) ?_)
  refine wpAny_bind (wpAny_callSpecial?_slot (name := Str.ofString "__getitem__") ht.typeIs PyProof.Rows.slot_tuple_getitem
    (wpAny_call_entry PyProof.Rows.slot_tuple_getitem ht.typeIs entry_tuple_getitem ?_ (args_tuple_getitem _ _)))
  show wpAny _ _ (Builtin.Tuple.tupleItemsOf (.ref t) >>= _) _ _ s
  refine wpAny_bind (tupleItemsOf_ ht ?_)
  refine wpAny_bind (wpAny_typeOf hTs ?_)
  rw [if_pos (by decide)]
  refine wpAny_bind (sliceApplied_back hs ps ?_)
  have hno : ¬ (((items.size : Int) - 1 == 0 && (-1 : Int) == 1 && items.size == items.size) = true) := by
    rw [show ((-1 : Int) == 1) = false by decide, Bool.and_false, Bool.false_and]
    exact Bool.false_ne_true
  show wpAny _ _ (if ((items.size : Int) - 1 == 0 && (-1 : Int) == 1 && items.size == items.size) = true then _ else _) _ _ s
  rw [if_neg hno, back_pick]
  exact wpAny_bind (m := Builtin.Tuple.tupleExact _) (wpAny_newObj_type (wpAny_pure ⟨_, rfl, wpAny_pure h⟩) htake)
end
section
variable {X : Cx} {C : Fx} {W : WX}
/-- what x[::-1] does -/
def tRevA (K : PySem.W.Frag) (te : TE) : TE := fun σ H Q => te σ H fun x H1 => ∃ a xs, x = .ref a ∧ ((SqL K H1 a xs ∧ ∀ p, H1 p = none → Q (.ref p) (upd H1 p (.lst xs.reverse))) ∨ (SqT K H1 a xs ∧ ∀ p, H1 p = none → Q (.ref p) (upd H1 p (.tup xs.reverse))))
theorem pe_revA {e : Expr} {te : TE} {k : Nat} {p1 p2 p3 pos : Pos} (he : PE X e te) : PE X (.Subscript e (.Slice none none (some (.UnaryOp .USub (.Constant (.int 1) k p1) p2)) p3) pos) (tRevA X.K te) := by
  refine ⟨fun pins s σ H Q I h => Subscript_ (thn (he.run pins s σ H _ I h) fun v s1 ⟨x, H1, I1, r1, a, xs, ex, q1⟩ => ?_)⟩
  subst ex
  cases r1
  have hst : PO X (some (.UnaryOp .USub (.Constant (.int 1) k p1) p2)) (tPart (tUn (rU fun i => .int (-i)) (tC (.int 1)))) := po_some (pe_un un_neg pe_int)
  have n0 : wpAny (model X.prog X.w) X.A (evalPart none X.env) (fun v s' => v = .none ∧ s' = s1) X.xe s1 := by rw [evalPart_none]; exact wpAny_pure ⟨rfl, rfl⟩
  refine wpAny_Slice (thn n0 fun vl s2 ⟨e1, e2⟩ => ?_)
  subst e1 e2
  refine thn n0 fun vu s2' ⟨e1, e2⟩ => ?_
  subst e1 e2
  refine thn (hst.run pins _ σ H1 (fun o H4 => o = some (-1) ∧ H4 = H1) I1 ⟨1, rfl, -1, rfl, rfl, rfl⟩) fun vs s4 ⟨o, H4, I4, ps, eo, e4⟩ => ?_
  subst eo e4
  have I5 : Inv X pins σ H4 { s4 with heap := s4.heap.push { cls := .type "slice", data := .fields #[.none, .none, vs] } } := I4.kept (t' := s4.toks) fun b ob q => Heap.get?_push_of_some _ q
  show wpAny (model X.prog X.w) X.A (subscriptTail e (.Slice none none (some (.UnaryOp .USub (.Constant (.int 1) k p1) p2)) p3) (.ref a) (.ref s4.heap.objs.size)) (EP X pins σ Q) X.xe { s4 with heap := s4.heap.push { cls := .type "slice", data := .fields #[.none, .none, vs] } }
  rcases q1 with ⟨hx, q⟩ | ⟨hx, q⟩
  · obtain ⟨its, r, ht, hz⟩ := I5.list hx
    have hlen := r.length
    refine tail_any (ops := [.ref a, .ref s4.heap.objs.size]) ht.isList.typeIs (PySem.slot_list_getitem.lookup) ?_ (by with_unfolding_all rfl)
    refine wpAny_getItem_list_slice ht.isList (Heap.IsSliceOf.new _ _ _ vs) .none .none ps (by decide) ?_ (by rw [List.size_toArray]; omega)
    rw [PySem.W.krv_pick]
    have ok : ObjOk X.prog X.w (upd H4 (s4.heap.push { cls := .type "slice", data := .fields #[.none, .none, vs] }).objs.size (.lst xs.reverse)) ((s4.heap.push { cls := .type "slice", data := .fields #[.none, .none, vs] }).push { cls := .type "list", data := .seq its.reverse.toArray }) (s4.heap.push { cls := .type "slice", data := .fields #[.none, .none, vs] }).objs.size (.lst xs.reverse) :=
      ⟨by rw [List.length_reverse]; exact hz, _, 0, r.reverse, Heap.get?_push_size _ rfl⟩
    exact ⟨.ref _, _, I5.laid (t' := s4.toks) (fun b ob q => Heap.get?_push_of_some _ q) (Nat.le_refl _) ok, rfl, q _ (I5.hok.fresh (Nat.le_refl _))⟩
  · obtain ⟨its, r, ht, hz⟩ := I5.tuple hx
    have hlen := r.length
    refine tail_any (ops := [.ref a, .ref s4.heap.objs.size]) ht.typeIs (PyProof.Rows.slot_tuple_getitem.lookup) ?_ (by with_unfolding_all rfl)
    refine getItem_tuple_back ht (Heap.IsSliceOf.new _ _ _ vs) ps ?_ (by rw [List.size_toArray]; omega)
    have ok : ObjOk X.prog X.w (upd H4 (s4.heap.push { cls := .type "slice", data := .fields #[.none, .none, vs] }).objs.size (.tup xs.reverse)) ((s4.heap.push { cls := .type "slice", data := .fields #[.none, .none, vs] }).push { cls := .type "tuple", data := .seq its.toArray.toList.reverse.toArray }) (s4.heap.push { cls := .type "slice", data := .fields #[.none, .none, vs] }).objs.size (.tup xs.reverse) :=
      ⟨by rw [List.length_reverse]; exact hz, its.reverse, r.reverse, ⟨_, Heap.get?_push_size _ rfl, rfl, _, rfl⟩⟩
    exact ⟨.ref _, _, I5.laid (t' := s4.toks) (fun b ob q => Heap.get?_push_of_some _ q) (Nat.le_refl _) ok, rfl, q _ (I5.hok.fresh (Nat.le_refl _))⟩
def revD : D → Option D
  | .lst xs => some (.lst xs.reverse)
  | .tup xs => some (.tup xs.reverse)
  | _ => none
theorem de_rev {g : DEnv → M D} {e : Expr} {k : Nat} {p1 p2 p3 pos : Pos} (he : PE X e (tEb X.K C W g)) : PE X (.Subscript e (.Slice none none (some (.UnaryOp .USub (.Constant (.int 1) k p1) p2)) p3) pos) (tE X.K C W (g1 revD g)) :=
  pe_imp (pe_revA he) fun σ H Q h => by
    obtain ⟨ρ, q, F, s, h⟩ := h
    refine ⟨ρ, q, F, s, Post.seq h fun d x q1 F1 H1 e1 w1 r1 h1 => ?_⟩
    have h4 := h1.lift
    unfold revD at h4
    split at h4
    · obtain ⟨a, vs, rfl, h5, t5⟩ := r1.seq w1
      exact ⟨a, vs, rfl, .inl ⟨SqL.of h5, fun p hp => h4.newL w1 rfl t5.reverse hp⟩⟩
    · obtain ⟨a, vs, rfl, h5, t5⟩ := r1.tup w1
      exact ⟨a, vs, rfl, .inr ⟨h5.sq, fun p hp => h4.newT w1 rfl t5.reverse hp⟩⟩
    · exact h4.elim

/-! ### enumerate over a tuple -/
def IteT (K : PySem.W.Frag) (a : Addr) : It :=
  ⟨fun i H => ∃ (xs : List V) (x : V), SqT K H a xs ∧ xs[i]? = some x,
    fun i H v H' => ∃ T x, v = .ref T ∧ H T = none ∧ H' = upd H T (.tup [.int (i : Nat), x]) ∧ ∀ xs, SqT K H a xs → xs[i]? = some x,
    fun i H => ∃ xs : List V, SqT K H a xs ∧ xs.length = i⟩
theorem turn_enumT {P : Program} {w : World} {K : PySem.W.Frag} {elts : List Expr} {kk : Nat} {tpos : Pos} (a e it : Addr) (hea : a ≠ it) (hae : a ≠ e) :
    Turn P w K (.Tuple elts kk tpos) (IteT K a) [e, it] e (fun i h => (∃ old, IsEnum h e it (i : Int) old) ∧ h.IsTupleIter it a i ∧ e ≠ it) where
  mem := by simp
  obj := fun i h st c hc => by
    obtain ⟨⟨old, he⟩, ⟨o, ho, _, hd⟩, _⟩ := st
    have e' : c = e ∨ c = it := by simpa using hc
    rcases e' with q | q
    · rw [q]; exact ⟨_, he, fun v q => nomatch q⟩
    · rw [q]; exact ⟨o, ho, fun v q => by rw [hd] at q; cases q⟩
  keep := fun i h h' st k => by
    obtain ⟨⟨old, he⟩, hit, hne⟩ := st
    exact ⟨⟨old, k e (by simp) _ he⟩, hit.at fun o q => k it (by simp) o q, hne⟩
  item := by
    intro X hP hw hK hc i pins s σ H E I hf st hg
    subst hP hw hK
    obtain ⟨⟨old, he⟩, hit, hne⟩ := st
    obtain ⟨xs, x, hq, hx⟩ := hg
    obtain ⟨its, rv, p, hz⟩ := I.tuple hq
    obtain ⟨u, hu, ru⟩ := rv.get hx
    have hel : e < s.heap.objs.size := Heap.lt_size he
    have hil : it < s.heap.objs.size := by obtain ⟨_, q, _⟩ := hit; exact Heap.lt_size q
    have hlt : i < its.toArray.size := by
      have := (List.getElem?_eq_some_iff.mp hu).1
      simpa using this
    refine wpAny_pyNext_enum_itemD (Draws.tuple (prog := X.prog) (w := X.w) (A := X.A.in1) (I.ok.hd hc) it a hea its.toArray) he ⟨hit, p⟩ hlt hne (by simp [hne, Ne.symm hae]) fun x' h' tk hP ho hs' hT hsz hk => ?_
    have eu : x' = u := by
      have h2 : its.toArray[i]? = some u := by simpa using hu
      rw [h2] at hP
      exact (Option.some.inj hP).symm
    subst eu
    refine ⟨_, rfl, wpAny_letOwnedTupleGo_enum (s := { s with heap := h', toks := tk + 1 }) ho fun h'' he' sb => ?_⟩
    have hT2 : h''.get? s.heap.objs.size = some { cls := .type "tuple", data := .seq #[.int i tk, x'] } := (sb.2 _ (Nat.ne_of_gt hel)).trans hT
    have new : ObjOk X.prog X.w (upd H s.heap.objs.size (.tup [.int (i : Nat), x])) h'' s.heap.objs.size (.tup [.int (i : Nat), x]) :=
      ⟨by show 2 ≤ sizeLine; rw [sizeLine_eq]; decide, [.int i tk, x'], .cons ⟨_, rfl⟩ (.cons ru .nil), ⟨_, hT2, rfl, _, rfl⟩⟩
    have I1 : Inv X pins σ (upd H s.heap.objs.size (.tup [.int (i : Nat), x])) { s with heap := h'', toks := tk + 1 } :=
      I.turnedNew (ch := [e, it]) (fun b ob hb q => (sb.2 b (fun z => hb (by simp [z]))).trans (hk b ob (fun z => hb (by simp [z])) (fun z => hb (by simp [z])) q)) hf (Nat.le_refl _) new
    refine ⟨.ref s.heap.objs.size, _, I1, rfl, ⟨_, x, rfl, I.hok.fresh (Nat.le_refl _), rfl, fun ys hy => by rw [I.tuple_inj hy hq]; exact hx⟩, ⟨⟨x', ?_⟩, hs'.1.at fun o q => (sb.2 it (Ne.symm hne)).trans q, hne⟩, fun b hb => ?_⟩
    · have e1 : ((i + 1 : Nat) : Int) = (i : Int) + 1 := by omega
      rw [e1]
      simpa using he'
    · have hb' : b < s.heap.objs.size := by
        have e' : b = e ∨ b = it := by simpa using hb
        rcases e' with z | z
        · rw [z]; exact hel
        · rw [z]; exact hil
      rw [upd_ne (Nat.ne_of_lt hb')]
      exact (hf b hb).1
  done := by
    intro X hP hw hK hc i pins s σ H E I hf st hg
    subst hP hw hK
    obtain ⟨⟨old, he⟩, hit, hne⟩ := st
    obtain ⟨xs, hq, hx⟩ := hg
    obtain ⟨its, rv, p, hz⟩ := I.tuple hq
    have hl : its.toArray.size = i := by rw [List.size_toArray, ← rv.length, hx]
    obtain ⟨f0, f1, f2, f3, f4, f5⟩ := hf it (by simp)
    have D := Draws.tuple (prog := X.prog) (w := X.w) (A := X.A.in1) (I.ok.hd hc) it a hea its.toArray
    rw [hl] at D
    exact wpAny_pyNext_enum_endD D he ⟨hit, p⟩ fun h' eb => ⟨rfl, I.turned (t' := s.toks) (fun b o hb q => eb b o hb q) f0 f1 f3 f4 f5⟩
  self := fun A i s Q E st h => wpAny_pyIter_enum st.1.choose_spec h
end
theorem meets_enum_tup (t : Addr) (items : Array Value) :
    Meets (Builtin.«enumerate.__new__» ⟨[.type "enumerate", .ref t], []⟩) (fun _ R s => s.heap.IsTuple t items ∧
      R (.ok (.ret (.ref (s.heap.push { cls := .type "tuple_iterator", data := .fields #[.ref t, .int 0 0] }).objs.size)))
        { s with heap := (s.heap.push { cls := .type "tuple_iterator", data := .fields #[.ref t, .int 0 0] }).push { cls := .type "enumerate", data := .fields #[.none, .bool false, .ref s.heap.objs.size, rawInt 0, .none, .none] } }) :=
  .of_wp fun prog w A R s h => by
    obtain ⟨hp, g, d, tk, os⟩ := s; obtain ⟨hL, h⟩ := h
    have hsub := sub_enumerate
    wp_walk
    refine wpAny_stack_any fun st => wpAny_pure ?_
    split
    · rename_i c _ _ _ _ _
      cases (c == Value.type "enumerate")
      · wp_walk using wpAny_pyIter_tuple hL
        exact ⟨_, rfl, h⟩
      · wp_walk using wpAny_pyIter_tuple hL
        exact ⟨_, rfl, h⟩
    · wp_walk using wpAny_pyIter_tuple hL
      exact ⟨_, rfl, h⟩
theorem call_enum_tup {prog : Program} {w : World} {A : Around} {E : Value → Shared → Prop} {s : Shared} {t : Addr} {items : Array Value} {Q : Value → Shared → Prop} (hL : s.heap.IsTuple t items)
    (h : ∀ h', IsEnum h' (s.heap.objs.size + 1) s.heap.objs.size 0 .none → h'.IsTupleIter s.heap.objs.size t 0 → (∀ b o, s.heap.get? b = some o → h'.get? b = some o) → Q (.ref (s.heap.objs.size + 1)) { s with heap := h' }) :
    wpAny (model prog w) A (call (.type "enumerate") [.ref t]) Q E s := by
  refine callType_new F.called_enumerate (by decide) (F.typeCall_enumerate_1 _) (F.newCall_enumerate_1 _) (fun obj => F.args_object_init_2 obj _) F.entry_enumerate_new (meets_enum_tup t items) ⟨hL, ?_⟩
  have hz : (s.heap.push { cls := .type "tuple_iterator", data := .fields #[.ref t, .int 0 0] }).objs.size = s.heap.objs.size + 1 := Heap.size_push ..
  show _ ∧ _
  rw [hz]
  have he := Heap.get?_push_size (s.heap.push { cls := .type "tuple_iterator", data := .fields #[.ref t, .int 0 0] }) (o := { cls := .type "enumerate", data := .fields #[.none, .bool false, .ref s.heap.objs.size, rawInt 0, .none, .none] }) rfl
  rw [hz] at he
  exact ⟨⟨_, he, rfl⟩, h _ he ⟨_, Heap.get?_push_of_some _ (Heap.get?_push_size _ rfl), rfl, rfl⟩ fun b o x => Heap.get?_push_of_some _ (Heap.get?_push_of_some _ x)⟩
def iEnumT (K : PySem.W.Frag) (ta : TA) : TI := fun σ H R => ta σ H fun vs H1 => ∃ a xs, vs = [.ref a] ∧ SqT K H1 a xs ∧ R (IteT K a) H1
theorem pi_enumT {X : Cx} {e : Expr} {ta : TA} {p pos tpos : Pos} {elts : List Expr} {kk : Nat} (hg : Gl X "enumerate") (hm : X.mg "enumerate" = none) (ha : PA X [e] ta) (hs : starEach [e] X.env = [(false, eval e X.env)] := by rfl) :
    PI X (.Tuple elts kk tpos) (.Call (.Name "enumerate" p) [e] [] pos) (iEnumT X.K ta) := by
  refine ⟨fun pins s σ H R I h => Call_ (ld_blt I hg hm boot_enumerate (PyProof.Rows.callWith_type1 (thn (ha.run pos pins s σ H _ I h) fun us s1 ⟨vs, H1, I1, r1, a, xs, ex, hq, q⟩ => ?_) hs rfl))⟩
  subst ex
  obtain ⟨u, rfl, r⟩ := vals1 r1
  cases r
  obtain ⟨its, rv, p', hz⟩ := I1.tuple hq
  have hal : a < s1.heap.objs.size := by obtain ⟨o, ho, _⟩ := id p'; exact Heap.lt_size ho
  refine call_enum_tup (items := its.toArray) p' fun h' he hit hk => wpAny_pyIter_enum he ?_
  refine ⟨s1.heap.objs.size + 1, [s1.heap.objs.size + 1, s1.heap.objs.size], _, _, H1, rfl, I1.kept (t' := s1.toks) hk, turn_enumT a (s1.heap.objs.size + 1) s1.heap.objs.size (Nat.ne_of_lt hal) (Nat.ne_of_lt (Nat.lt_succ_of_lt hal)), ⟨⟨.none, he⟩, hit, Nat.succ_ne_self _⟩, fun b hb => ?_, q⟩
  have hle : s1.heap.objs.size ≤ b := by
    rcases (show b = s1.heap.objs.size + 1 ∨ b = s1.heap.objs.size by simpa using hb) with z | z
    · rw [z]; exact Nat.le_add_right _ _
    · rw [z]; exact Nat.le_refl _
  exact I1.fpOk hle (I1.hok.fresh hle)

/-! ### what enumerate, zip walk -/
def enumL (xs : List D) : List D := (List.range xs.length).zipWith (fun i d => D.tup [.int (i : Nat), d]) xs
theorem enumL_len (xs : List D) : (enumL xs).length = xs.length := by simp [enumL]
theorem enumL_at {xs : List D} {i : Nat} {d : D} (h : xs[i]? = some d) : (enumL xs)[i]? = some (.tup [.int (i : Nat), d]) := by
  have hi : i < xs.length := (List.getElem?_eq_some_iff.mp h).1
  unfold enumL
  rw [List.getElem?_zipWith, h]
  simp [hi]
theorem pair_new {K : PySem.W.Frag} {S : Sx} {F H : Hp} {q : PenS} {d e : D} {v u : V} {T : Addr} (w : Wf S q F H) (hT : H T = none) (r : Rep K S F d v) (r2 : Rep K S F e u) :
    Ev S F H (upd F T (.tup [v, u])) (upd H T (.tup [v, u])) ∧ Wf S q (upd F T (.tup [v, u])) (upd H T (.tup [v, u])) ∧ Rep K S (upd F T (.tup [v, u])) (.tup [d, e]) (.ref T) :=
  ⟨(w.new hT _).1, (w.new hT _).2, tup_new w hT (.cons r (.cons r2 .nil))⟩
theorem wk_enumT {K : PySem.W.Frag} {S : Sx} {a : Addr} {xs : List D} {vs : List V} {F0 : Hp} (r : RepL K S F0 xs vs) : Wk K S (IteT K a) (enumL xs) (fun F H => SqT K H a vs ∧ ∀ b o, F0 b = some o → F b = some o) where
  go := fun i F H q hi w g => by
    rw [enumL_len] at hi
    exact ⟨vs, vs[i]'(by rw [r.length]; exact hi), g.1, by simp [r.length, hi]⟩
  stop := fun F H q w g => ⟨vs, g.1, by rw [r.length, enumL_len]⟩
  yld := fun i F H q x H' hi w g y => by
    obtain ⟨T, u, rfl, hT, rfl, y⟩ := y
    obtain ⟨d, h1, h2⟩ := r.getV (y vs g.1)
    obtain ⟨e1, w1, r1⟩ := pair_new (S := S) w hT (.int (i : Nat)) (h2.up g.2)
    exact ⟨_, _, e1, w1, enumL_at h1, r1⟩
theorem wk_enumL {K : PySem.W.Frag} {S : Sx} {a : Addr} {xs : List D} {vs : List V} {F0 : Hp} (r : RepL K S F0 xs vs) : Wk K S (Ite K a) (enumL xs) (fun F H => H a = some (.lst vs) ∧ ∀ b o, F0 b = some o → F b = some o) where
  go := fun i F H q hi w g => by
    rw [enumL_len] at hi
    exact ⟨vs, vs[i]'(by rw [r.length]; exact hi), SqL.of g.1, by simp [r.length, hi]⟩
  stop := fun F H q w g => ⟨vs, SqL.of g.1, by rw [r.length, enumL_len]; exact Nat.le_refl _⟩
  yld := fun i F H q x H' hi w g y => by
    obtain ⟨T, u, rfl, hT, rfl, y⟩ := y
    obtain ⟨d, h1, h2⟩ := r.getV (y vs (SqL.of g.1))
    obtain ⟨e1, w1, r1⟩ := pair_new (S := S) w hT (.int (i : Nat)) (h2.up g.2)
    exact ⟨_, _, e1, w1, enumL_at h1, r1⟩
def enumTD : List D → Option (List D)
  | [.tup xs] => some (enumL xs)
  | _ => none
def enumLD : List D → Option (List D)
  | [.lst xs] => some (enumL xs)
  | _ => none
section
variable {X : Cx} {C : Fx} {W : WX}
theorem di_enumT {e : Expr} {gs : DEnv → M (List D)} {p pos tpos : Pos} {elts : List Expr} {kk : Nat} (hm : X.mg "enumerate" = none) (ha : PA X [e] (tA X.K C W gs)) (hg : Gl X "enumerate" := by rfl) (hs : starEach [e] X.env = [(false, eval e X.env)] := by rfl) :
    PI X (.Tuple elts kk tpos) (.Call (.Name "enumerate" p) [e] [] pos) (tIf X.K C W (g1 enumTD gs)) := pi_imp (pi_enumT hg hm ha hs) fun σ H R h => by
  obtain ⟨ρ, q, F, s, h⟩ := h
  refine ⟨ρ, q, F, s, Post.seq h fun ds xs q1 F1 H1 e1 w1 r1 h1 => ?_⟩
  have h2 := h1.lift
  unfold enumTD at h2
  split at h2
  · rename_i ys
    obtain ⟨v, rfl, b⟩ := r1.inv1
    cases b with
    | @tup a _ vs h3 h4 => exact ⟨a, vs, rfl, (h3.up w1.sub).sq, h2 _ F1 H1 .refl w1 ⟨_, wk_enumT h4, fun F' H' e w => ⟨((h3.up e).up w.choose_spec.sub).sq, e⟩⟩⟩
  · exact h2.elim
theorem di_enumL {e : Expr} {gs : DEnv → M (List D)} {p pos tpos : Pos} {elts : List Expr} {kk : Nat} (hm : X.mg "enumerate" = none) (ha : PA X [e] (tA X.K C W gs)) (hg : Gl X "enumerate" := by rfl) (hs : starEach [e] X.env = [(false, eval e X.env)] := by rfl) :
    PI X (.Tuple elts kk tpos) (.Call (.Name "enumerate" p) [e] [] pos) (tIf X.K C W (g1 enumLD gs)) := pi_imp (pi_enum hg hm ha hs) fun σ H R h => by
  obtain ⟨ρ, q, F, s, h⟩ := h
  refine ⟨ρ, q, F, s, Post.seq h fun ds xs q1 F1 H1 e1 w1 r1 h1 => ?_⟩
  have h2 := h1.lift
  unfold enumLD at h2
  split at h2
  · rename_i ys
    obtain ⟨v, rfl, b⟩ := r1.inv1
    cases b with
    | @lst a _ vs h3 h4 => exact ⟨a, vs, rfl, SqL.of (w1.sub _ _ h3), h2 _ F1 H1 .refl w1 ⟨_, wk_enumL h4, fun F' H' e w => ⟨w.choose_spec.sub _ _ (e _ _ h3), e⟩⟩⟩
  · exact h2.elim
/-! ### zip of two tuples, two lists -/
def zipLD (xs ys : List D) : List D := List.zipWith (fun a b => D.tup [a, b]) xs ys
def zipD : List D → Option (List D)
  | [.tup xs, .tup ys] => some (zipLD xs ys)
  | [.lst xs, .lst ys] => some (zipLD xs ys)
  | _ => none
theorem zipLD_at {xs ys : List D} {i : Nat} {d e : D} (h : xs[i]? = some d) (h2 : ys[i]? = some e) : (zipLD xs ys)[i]? = some (.tup [d, e]) := by
  unfold zipLD
  rw [List.getElem?_zipWith, h, h2]
theorem zipLD_len (xs ys : List D) : (zipLD xs ys).length = min xs.length ys.length := by simp [zipLD]
theorem wk_zipT {K : PySem.W.Frag} {S : Sx} {a b : Addr} {xs ys : List D} {vs us : List V} {F0 : Hp} (r : RepL K S F0 xs vs) (r' : RepL K S F0 ys us) : Wk K S (ItzT K a b) (zipLD xs ys) (fun F H => (SqT K H a vs ∧ SqT K H b us) ∧ ∀ b o, F0 b = some o → F b = some o) where
  go := fun i F H q hi w g => by
    rw [zipLD_len] at hi
    exact ⟨vs, us, vs[i]'(by rw [r.length]; omega), us[i]'(by rw [r'.length]; omega), g.1.1, g.1.2, by simp, by simp⟩
  stop := fun F H q w g => ⟨vs, us, g.1.1, g.1.2, by rw [r.length, r'.length, zipLD_len]; omega⟩
  yld := fun i F H q x H' hi w g y => by
    obtain ⟨T, u, u', rfl, hT, rfl, y, y'⟩ := y
    obtain ⟨d, h1, h2⟩ := r.getV (y vs g.1.1)
    obtain ⟨d', h1', h2'⟩ := r'.getV (y' us g.1.2)
    obtain ⟨e1, w1, r1⟩ := pair_new (S := S) w hT (h2.up g.2) (h2'.up g.2)
    exact ⟨_, _, e1, w1, zipLD_at h1 h1', r1⟩
theorem wk_zipL {K : PySem.W.Frag} {S : Sx} {a b : Addr} {xs ys : List D} {vs us : List V} {F0 : Hp} (r : RepL K S F0 xs vs) (r' : RepL K S F0 ys us) : Wk K S (Itz K a b) (zipLD xs ys) (fun F H => (H a = some (.lst vs) ∧ H b = some (.lst us)) ∧ ∀ b o, F0 b = some o → F b = some o) where
  go := fun i F H q hi w g => by
    rw [zipLD_len] at hi
    exact ⟨vs, us, vs[i]'(by rw [r.length]; omega), us[i]'(by rw [r'.length]; omega), SqL.of g.1.1, SqL.of g.1.2, by simp, by simp⟩
  stop := fun F H q w g => ⟨vs, us, SqL.of g.1.1, SqL.of g.1.2, by rw [r.length, r'.length, zipLD_len]; omega⟩
  yld := fun i F H q x H' hi w g y => by
    obtain ⟨T, u, u', rfl, hT, rfl, y, y'⟩ := y
    obtain ⟨d, h1, h2⟩ := r.getV (y vs (SqL.of g.1.1))
    obtain ⟨d', h1', h2'⟩ := r'.getV (y' us (SqL.of g.1.2))
    obtain ⟨e1, w1, r1⟩ := pair_new (S := S) w hT (h2.up g.2) (h2'.up g.2)
    exact ⟨_, _, e1, w1, zipLD_at h1 h1', r1⟩
theorem di_zip {e e2 : Expr} {gs : DEnv → M (List D)} {p pos tpos : Pos} {elts : List Expr} {kk : Nat} (hm : X.mg "zip" = none) (ha : PA X [e, e2] (tA X.K C W gs)) (hg : Gl X "zip" := by rfl)
    (hs : starEach [e, e2] X.env = (false, eval e X.env) :: starEach [e2] X.env := by rfl) (hpl : (backTo pos (starEach [e2] X.env)).any (·.1) = false := by rfl) :
    PI X (.Tuple elts kk tpos) (.Call (.Name "zip" p) [e, e2] [] pos) (tIf X.K C W (g1 zipD gs)) := pi_imp (pi_zipA hg hm ha hs hpl) fun σ H R h => by
  obtain ⟨ρ, q, F, s, h⟩ := h
  refine ⟨ρ, q, F, s, Post.seq h fun ds xs q1 F1 H1 e1 w1 r1 h1 => ?_⟩
  have h2 := h1.lift
  unfold zipD at h2
  split at h2
  · obtain ⟨v, u, rfl, b, c⟩ := r1.inv2
    cases b with
    | @tup a _ vs h3 h4 =>
      cases c with
      | @tup a' _ us h5 h6 =>
        exact ⟨a, a', vs, us, rfl, .inr ⟨(h3.up w1.sub).sq, (h5.up w1.sub).sq, h2 _ F1 H1 .refl w1 ⟨_, wk_zipT h4 h6, fun F' H' e w => ⟨⟨((h3.up e).up w.choose_spec.sub).sq, ((h5.up e).up w.choose_spec.sub).sq⟩, e⟩⟩⟩⟩
  · obtain ⟨v, u, rfl, b, c⟩ := r1.inv2
    cases b with
    | @lst a _ vs h3 h4 =>
      cases c with
      | @lst a' _ us h5 h6 =>
        exact ⟨a, a', vs, us, rfl, .inl ⟨SqL.of (w1.sub _ _ h3), SqL.of (w1.sub _ _ h5), h2 _ F1 H1 .refl w1 ⟨_, wk_zipL h4 h6, fun F' H' e w => ⟨⟨w.choose_spec.sub _ _ (e _ _ h3), w.choose_spec.sub _ _ (e _ _ h5)⟩, e⟩⟩⟩⟩
  · exact h2.elim
end
end Dl
namespace Dl
open PySem PySem.Spec PyProof.Rows L2

/-! ### repr of plain data -/
mutual
def costP : PyData → Nat
  | .none => 5
  | .bool _ => 5
  | .int i => i.natAbs.log2 + 3
  | .str x => (reprText x).length
  | .list xs => 2 + costPs xs
  | .tuple xs => 3 + costPs xs
  | .dict _ => 0
def costPs : List PyData → Nat
  | [] => 0
  | x :: xs => costP x + 2 + costPs xs
end
theorem join_le : ∀ ts : List Str, (Str.join ", " ts).length ≤ (ts.map fun t => t.length + 2).sum
  | [] => by decide
  | [x] => by
    show x.length ≤ _
    simp
  | x :: y :: r => by
    have ih := join_le (y :: r)
    show (x ++ ", " ++ Str.join ", " (y :: r)).length ≤ _
    rw [strLen_append, strLen_append, List.map_cons, List.sum_cons]
    have e2 : ((", " : String) : Str).length = 2 := rfl
    omega
theorem textFrom_le : ∀ (ts : List Str) (k : Nat) (acc : Str), (textFrom k acc ts).length ≤ acc.length + (ts.map fun t => t.length + 2).sum
  | [], k, acc => Nat.le_refl _
  | t :: r, k, acc => by
    have ih := textFrom_le r (k + 1) (acc ++ (if k > 0 then ", " else "" : String) ++ t)
    have e : (acc ++ (if k > 0 then ", " else "" : String) ++ t).length ≤ acc.length + 2 + t.length := by
      rw [strLen_append, strLen_append]
      split
      · exact Nat.le_refl _
      · exact Nat.add_le_add_right (Nat.add_le_add_left (by decide) _) _
    rw [List.map_cons, List.sum_cons]
    refine Nat.le_trans ih ?_
    omega
mutual
theorem shown_le : ∀ {p : PyData}, p.showable = true → p.canLay0 = true → p.shown.length ≤ costP p
  | .none, _, _ => by simp only [PyData.shown, costP]; decide
  | .bool b, _, _ => by cases b <;> (simp only [PyData.shown, costP]; decide)
  | .int i, h, _ => by
    have e : i.natAbs.log2 < i.natAbs.log2 + 1 := Nat.lt_succ_self _
    have := int_text_length_le (Nat.succ_pos _) e
    simp only [PyData.shown, costP]
    rw [PySem.ofString_length]
    omega
  | .str x, _, _ => by simp only [PyData.shown, costP]; exact Nat.le_refl _
  | .list xs, h, hc => by
    have := shownAll_le (xs := xs) (by simpa [PyData.showable] using h) (by simpa [PyData.canLay0] using hc)
    have h2 := textFrom_le (PyData.shownAll xs) 0 "["
    simp only [PyData.shown, costP]
    unfold listText
    rw [strLen_append]
    have e1 : (("[" : String) : Str).length = 1 := rfl
    have e2 : (("]" : String) : Str).length = 1 := rfl
    omega
  | .tuple xs, h, hc => by
    have := shownAll_le (xs := xs) (by simpa [PyData.showable] using h) (by simpa [PyData.canLay0] using hc)
    have h2 := join_le (PyData.shownAll xs)
    simp only [PyData.shown, costP]
    unfold tupleText
    rw [strLen_append, strLen_append]
    have e1 : (("(" : String) : Str).length = 1 := rfl
    have e2 : ((if (PyData.shownAll xs).length == 1 then ",)" else ")" : String) : Str).length ≤ 2 := by split <;> decide
    omega
  | .dict kvs, h, hc => by simp [PyData.canLay0] at hc
theorem shownAll_le : ∀ {xs : List PyData}, PyData.showableAll xs = true → PyData.canLayAll0 xs = true → ((PyData.shownAll xs).map fun t => t.length + 2).sum ≤ costPs xs
  | [], _, _ => by simp [PyData.shownAll, costPs]
  | x :: xs, h, hc => by
    have h' : x.showable = true ∧ PyData.showableAll xs = true := by simpa [PyData.showableAll] using h
    have hc' : x.canLay0 = true ∧ PyData.canLayAll0 xs = true := by simpa [PyData.canLayAll0] using hc
    have h1 := shown_le h'.1 hc'.1
    have h2 := shownAll_le h'.2 hc'.2
    simp only [PyData.shownAll, costPs, List.map_cons, List.sum_cons]
    omega
end
def showD (d : D) : Option Str := match py d with
  | some p => if p.showable = true ∧ SeqAt.shaped p = true ∧ costP p ≤ 1000000 then some p.shown else none
  | none => none
def reprD : List D → Option D
  | [d] => (showD d).map D.str
  | _ => none
section
variable {X : Cx} {S : Sx}
theorem shaped_lay {p : PyData} (h : SeqAt.shaped p = true) : p.canLay0 = true ∧ p.depth ≤ 64 := by
  have h' : (p.canLay0 && decide (p.depth ≤ 64)) = true := h
  simpa using h'
theorem typ_none (s : Shared) : s.TypeIs .none "NoneType" := rfl
theorem repr_bool {prog : Program} {w : World} {A : Around} {E : Value → Shared → Prop} {s : Shared} {Q : Value → Shared → Prop} (b : Bool) (h : Q (.str (if b then "True" else "False") s.toks) { s with toks := s.toks + 1 }) : wpAny (model prog w) A (call (.builtin "repr") [.bool b]) Q E s :=
  call_repr_gives (T := "bool") rfl PySem.F.slot_bool_repr PySem.F.entry_bool_repr (PySem.F.args_bool_repr_1 _) (gives_bool_repr b) h rfl (by cases b <;> rw [sizeLine_eq] <;> decide)
theorem repr_none {prog : Program} {w : World} {A : Around} {E : Value → Shared → Prop} {s : Shared} {Q : Value → Shared → Prop} (h : Q (.str "None" s.toks) { s with toks := s.toks + 1 }) : wpAny (model prog w) A (call (.builtin "repr") [.none]) Q E s :=
  call_repr_gives (T := "NoneType") rfl PySem.F.slot_NoneType_repr PySem.F.entry_NoneType_repr (PySem.F.args_NoneType_repr_1 _) gives_none_repr h rfl (by rw [sizeLine_eq]; decide)
theorem repr_str {prog : Program} {w : World} {A : Around} {E : Value → Shared → Prop} {s : Shared} {Q : Value → Shared → Prop} (x : Str) (t : Tok) (hx : (reprText x).length ≤ sizeLine) (h : Q (.str (reprText x) s.toks) { s with toks := s.toks + 1 }) : wpAny (model prog w) A (call (.builtin "repr") [.str x t]) Q E s :=
  call_repr_gives (T := "str") rfl PySem.F.slot_str_repr PySem.F.entry_str_repr (PySem.F.args_str_repr_1 _) (gives_str_repr x t) h rfl hx
theorem cd_repr (gd : X.A.guards = some []) (hu : X.A.units + 66 < cLine) : CallR X (.builtin "repr") (rDN X.K S reprD) := by
  intro pins s σ H xs us Q I rx h
  obtain ⟨q, F, ds, w, r, res⟩ := h
  unfold reprD at res
  split at res
  · rename_i d
    obtain ⟨v, rfl, b⟩ := r.inv1
    obtain ⟨u, rfl, ru⟩ := vals1 rx
    unfold showD at res
    cases hp : py d with
    | none => rw [hp] at res; exact res.elim
    | some p =>
      rw [hp] at res
      by_cases hc : p.showable = true ∧ SeqAt.shaped p = true ∧ costP p ≤ 1000000
      · have res2 : Res S q F H (RE X.K S) (some (D.str p.shown)) Q := by simpa only [if_pos hc, Option.map_some] using res
        have fin : Q (.str p.shown) H := res2 _ F H .refl w (.str _)
        obtain ⟨hl, hd⟩ := shaped_lay hc.2.1
        have hz : p.shown.length ≤ sizeLine := Nat.le_trans (shown_le hc.1 hl) (line6 hc.2.2)
        have dp := b.py w hp
        obtain ⟨as, rd⟩ := Dp.reads I p v u dp ru
        cases p with
        | none =>
          cases dp
          cases ru
          exact repr_none ⟨.str _, H, I.tok _, ⟨_, rfl⟩, by simpa only [PyData.shown] using fin⟩
        | bool k =>
          cases dp
          cases ru
          exact repr_bool k ⟨.str _, H, I.tok _, ⟨_, rfl⟩, by simpa only [PyData.shown] using fin⟩
        | int i =>
          cases dp
          obtain ⟨t, rfl⟩ := ru
          exact PySem.P.repr_of_int (by simpa [PyData.showable] using hc.1) ⟨.str _, H, I.tok _, ⟨_, rfl⟩, by simpa only [PyData.shown] using fin⟩
        | str x =>
          cases dp
          obtain ⟨t, rfl⟩ := ru
          simp only [PyData.shown] at hz fin
          exact repr_str x t hz ⟨.str _, H, I.tok _, ⟨_, rfl⟩, fin⟩
        | list ys =>
          cases dp
          cases ru
          exact repr_of_reads' rd hc.1 (PyData.noDict_hsm (PyData.hasDict_of_canLay _ hl)) gd (by omega) (fun _ _ e => e) (fun h' t tk k => ⟨.str _, H, I.kept k, ⟨_, rfl⟩, fin⟩) hz
        | tuple ys =>
          cases dp
          cases ru
          exact repr_of_reads' rd hc.1 (PyData.noDict_hsm (PyData.hasDict_of_canLay _ hl)) gd (by omega) (fun _ _ e => e) (fun h' t tk k => ⟨.str _, H, I.kept k, ⟨_, rfl⟩, fin⟩) hz
        | dict ys => simp [PyData.canLay0] at hl
      · have res2 : Res S q F H (RE X.K S) none Q := by simpa only [if_neg hc, Option.map_none] using res
        exact res2.elim
  · exact res.elim
end
end Dl
namespace Dl
open PySem PySem.Spec PyProof.Rows L2

/-! ### B.__init__(self, ..), B an own class over ValueError without own __init__ -/
section
variable {X : Cx}
theorem pe_ownInit {B : Str} {Cb : Addr} {mc : Value} {e : Expr} {es : List Expr} {p1 p2 pos : Pos} {ta : TA} {pl : Sem Bool} (hm : X.mg B = some (.ref Cb)) (rd : ClX.CRead X.K Cb mc) (vV : PySem.W.findCls X.K (.ref Cb) mc "__init__" = some (.val (.builtin "ValueError.__init__")))
    (ha : PA X (e :: es) ta) (hg : Gl X B := by rfl) (hdb : (B == ("__debug__" : Str)) = false := by decide)
    (hc : eval (.Call (.Attribute (.Name B p1) "__init__" p2) (e :: es) [] pos) X.env = (do
      let ov ← eval (.Name B p1) X.env
      standAt p2.atName
      let (f, first) ← holding [ov] (getMethod ov "__init__" pl)
      callWith pos f first (backTo pos (starEach (e :: es) X.env)) (backToKw pos (keywordEach [] X.env))) := by rfl)
    (he : starEach (e :: es) X.env = (false, eval e X.env) :: starEach es X.env := by rfl) (hpl : (backTo pos (starEach es X.env)).any (·.1) = false := by rfl) :
    PE X (.Call (.Attribute (.Name B p1) "__init__" p2) (e :: es) [] pos) (tVeI X.K ta) := by
  refine ⟨fun pins s σ H Q I h => PySem.W.methodCall_KW (ld_glob I hg hm ?_ hdb) hc⟩
  refine PySem.W.method_cls I.kIn rd.ga (PySem.W.cls_value I.kIn rd.rd vV (by decide +kernel) ?_)
  show wpAny _ _ (callWith pos (Value.builtin "ValueError.__init__") [] (backTo pos (starEach (e :: es) X.env)) []) _ _ _
  refine PyProof.Rows.callWith_method1 (thn (ha.run pos pins _ σ H _ (I.tok _) h) fun us s1 ⟨vs, H1, I1, r1, a, C, ws, ev, hl, T, ea, q⟩ => ?_) he hpl
  subst ev
  cases r1 with
  | @cons _ u0 _ ur ra rw' =>
    obtain rfl : u0 = Value.ref a := ra
    have hlen : ur.length ≤ sizeLine := by
      rw [← Paired.length rw', sizeLine_eq]
      omega
    exact oinit_ok T I1 ea hlen fun s' J => ⟨.non, H1, J, rfl, q⟩
end

/-! ### self.f = f, one after the other -/
/-- the exception at a, its fields so far; all else as in H0 -/
def InR (a C : Addr) (H0 : Hp) (done : List (Str × V)) (H : Hp) : Prop := match done with
  | [] => H = H0 ∧ H0 a = some (exo a C none)
  | _ => ∃ dx, H0 dx = none ∧ dx ≠ a ∧ H a = some (exo a C (some dx)) ∧ H dx = some (exd dx done) ∧ ∀ b, b ≠ a → b ≠ dx → H b = H0 b
def valAt (σ : L2.St) (i : Nat) : V := match σ[i]? with
  | some (some v) => v
  | _ => .non
def finF (σ : L2.St) (fs : List (Str × Nat)) (done : List (Str × V)) : List (Str × V) := fs.foldl (fun d p => (p.1, valAt σ p.2) :: d) done
theorem InR.put {a C : Addr} {H0 H : Hp} {done : List (Str × V)} {f : Str} {v : V} (h : InR a C H0 done H) (hl : done.length ≤ 900) {D : Ends} {σ : L2.St} {K : PySem.W.Frag} (T : OexC K C) (hno : PySem.W.findIn K (.ref C) f = some none)
    (k : ∀ H', InR a C H0 ((f, v) :: done) H' → D.nx σ H') : ∃ a' C' : Addr, V.ref a = .ref a' ∧ OexC K C' ∧ PySem.W.findIn K (.ref C') f = some none ∧
  ((H a' = some (exo a' C' none) ∧ ∀ dx, H dx = none → dx ≠ a' → D.nx σ (upd (upd H dx (exd dx [(f, v)])) a' (exo a' C' (some dx)))) ∨
    ∃ (dx : Addr) (fs : List (Str × V)), H a' = some (exo a' C' (some dx)) ∧ H dx = some (exd dx fs) ∧ fs.length ≤ 900 ∧ D.nx σ (upd H dx (exd dx ((f, v) :: fs)))) := by
  refine ⟨a, C, rfl, T, hno, ?_⟩
  cases done with
  | nil =>
    obtain ⟨rfl, ea⟩ := h
    refine .inl ⟨ea, fun dx hd ne => k _ ⟨dx, hd, ne, upd_same, ?_, fun b h1 h2 => ?_⟩⟩
    · rw [upd_ne ne, upd_same]
    · rw [upd_ne h1, upd_ne h2]
  | cons p r =>
    obtain ⟨dx, hd, ne, ea, ed, ho⟩ := h
    refine .inr ⟨dx, _, ea, ed, hl, k _ ⟨dx, hd, ne, ?_, upd_same, fun b h1 h2 => ?_⟩⟩
    · rw [upd_ne (Ne.symm ne)]
      exact ea
    · rw [upd_ne h2]
      exact ho b h1 h2
section
variable {X : Cx}
/-- what one store wishes -/
def tFld (a C : Addr) (f : Str) (i : Nat) : TS := fun D σ H => ∃ H0 done, InR a C H0 done H ∧ done.length ≤ 900 ∧ σ[0]? = some (some (.ref a)) ∧ (∃ v, σ[i]? = some (some v)) ∧ ∀ H', InR a C H0 ((f, valAt σ i) :: done) H' → D.nx σ H'
theorem ps_fld {self f y : Str} {p0 p1 p2 pos : Pos} {a C : Addr} (i : Nat) (T : OexC X.K C) (hno : PySem.W.findIn X.K (.ref C) f = some none) (hN0 : X.N[0]? = some self := by rfl) (hv0 : Vis X.env.scope self := by first | exact Or.inl rfl | exact Or.inr (Or.inl rfl) | exact Or.inr (Or.inr rfl))
    (hN : X.N[i]? = some y := by rfl) (hv : Vis X.env.scope y := by first | exact Or.inl rfl | exact Or.inr (Or.inl rfl) | exact Or.inr (Or.inr rfl)) (h0 : (self == ("__debug__" : Str)) = false := by decide) (h1 : (self == ("__classdict__" : Str)) = false := by decide)
    (h2 : (y == ("__debug__" : Str)) = false := by decide) (h3 : (y == ("__classdict__" : Str)) = false := by decide) (hs : swapsWith (.Name y p2) (some (.Attribute (.Name self p0) f p1)) pos.line X.env = pure false := by rfl) :
    PS X (.Assign [.Attribute (.Name self p0) f p1] (.Name y p2) pos) (tFld a C f i) := ps_imp (ps_ost (pe_var hN0 hv0 h0 h1) (pe_var hN hv h2 h3) hs) fun D σ H h => by
  obtain ⟨H0, done, hi, hl, e0, ⟨v, ev⟩, k⟩ := h
  have e : valAt σ i = v := by unfold valAt; rw [ev]
  rw [e] at k
  exact ⟨v, ev, .ref a, e0, hi.put hl T hno k⟩
inductive FldsOk (X : Cx) (a C : Addr) : List Stmt → List (Str × Nat) → Prop
  | nil : FldsOk X a C [] []
  | cons {st : Stmt} {sts : List Stmt} {f : Str} {i : Nat} {fs : List (Str × Nat)} : PS X st (tFld a C f i) → FldsOk X a C sts fs → FldsOk X a C (st :: sts) ((f, i) :: fs)
theorem pss_flds {a C : Addr} : ∀ {sts : List Stmt} {fs : List (Str × Nat)}, FldsOk X a C sts fs → PSs X sts (fun D σ H => ∃ H0 done, InR a C H0 done H ∧ done.length + fs.length ≤ 900 ∧ σ[0]? = some (some (.ref a)) ∧ (∀ p ∈ fs, ∃ v, σ[p.2]? = some (some v)) ∧ ∀ H', InR a C H0 (finF σ fs done) H' → D.nx σ H')
  | _, _, .nil => pss_imp pss_nil fun D σ H h => by
    obtain ⟨H0, done, hi, _, _, _, k⟩ := h
    exact k H hi
  | _, _, .cons (f := f) (i := i) (fs := fs) h r => pss_imp (pss_cons h (pss_flds r)) fun D σ H h => by
    obtain ⟨H0, done, hi, hl, e0, hv, k⟩ := h
    rw [List.length_cons] at hl
    refine ⟨H0, done, hi, by omega, e0, hv (f, i) (List.mem_cons_self ..), fun H' h' => ?_⟩
    exact ⟨H0, _, h', by rw [List.length_cons]; omega, e0, fun p hp => hv p (List.mem_cons_of_mem _ hp), fun H2 h2 => k H2 h2⟩
end
/-- what C's __init__(self, ..) keeps: names ns -/
def spInit (C : Addr) (ns : List Str) : Sp := fun args H Q _ => ∃ a vs, args = .ref a :: vs ∧ vs.length = ns.length ∧ H a = some (exo a C none) ∧ ∀ H', InR a C H (ns.zip vs).reverse H' → Q .non H'
/-- the slots of a method's parameters -/
def parF (ns : List Str) : List (Str × Nat) := ns.zipIdx 1
theorem finF_par {σ : L2.St} : ∀ {ns : List Str} {vs : List V} {k : Nat} {done : List (Str × V)}, vs.length = ns.length → (∀ j v, vs[j]? = some v → σ[k + j]? = some (some v)) → finF σ (ns.zipIdx k) done = (ns.zip vs).reverse ++ done
  | [], [], k, done, _, _ => rfl
  | n :: ns, v :: vs, k, done, hl, h => by
    have e : valAt σ k = v := by
      unfold valAt
      rw [show σ[k]? = some (some v) from h 0 v rfl]
    rw [List.zipIdx_cons, List.zip_cons_cons, List.reverse_cons]
    show finF σ (ns.zipIdx (k + 1)) ((n, valAt σ k) :: done) = _
    rw [finF_par (vs := vs) (Nat.succ.inj hl) (fun j u hu => by
      have := h (j + 1) u (by simpa using hu)
      rwa [show k + 1 + j = k + (j + 1) by omega]), e, List.append_assoc]
    rfl
theorem zipIdx_snd {ns : List Str} {k : Nat} {p : Str × Nat} (h : p ∈ ns.zipIdx k) : k ≤ p.2 ∧ p.2 < k + ns.length := by
  obtain ⟨h1, h2, _⟩ := List.mem_zipIdx h
  exact ⟨h1, by omega⟩
section
variable {P : Program} {w : World} {K : PySem.W.Frag} {mg : Str → Option Value} {base : Heap} {x qual : Str} {params : Arguments} {scope : Scope} {f : Addr} {fd : FuncData}
theorem init_of {CX : CXT} {self : Str} {ns : List Str} {C : Addr} {k : Nat} {first : Stmt} {sts : List Stmt} (Fu : FunD K x qual params (first :: sts) scope [] [] f fd) (Sc : FnScope (self :: ns) (self :: ns) scope) (T : OexC K C) (hz : ns.length ≤ 800)
    (h1 : ∀ (cdv : Value) (A : Around) (outer : List PySem.Env) (s : Shared) (H : Hp) (E : XK) (a : Addr), PS (cxOf CX P w K mg base (self :: ns) qual scope f cdv A outer s H E) first (fun D σ H => σ[0]? = some (some (.ref a)) ∧ H a = some (exo a C none) ∧ D.nx σ H))
    (h2 : ∀ (cdv : Value) (A : Around) (outer : List PySem.Env) (s : Shared) (H : Hp) (E : XK) (a : Addr), FldsOk (cxOf CX P w K mg base (self :: ns) qual scope f cdv A outer s H E) a C sts (parF ns)) : FnOk P w K mg base CX (k + 1) f fd (self :: ns) (spInit C ns) := by
  refine Fu.ok Sc (fun vs H Q E ⟨a, ws, e, hl, _⟩ => by rw [e, List.length_cons, List.length_cons, hl]) fun cdv A outer s H vs Q E hr hsp => ?_
  obtain ⟨a, ws, rfl, hl, ea, k⟩ := hsp
  refine ⟨_, pss_cons (h1 cdv A outer s H E a) (pss_flds (h2 cdv A outer s H E a)), ?_⟩
  have e0 : (L2.start (self :: ns) (.ref a :: ws))[0]? = some (some (.ref a)) := rfl
  have ew : ∀ j v, ws[j]? = some v → (L2.start (self :: ns) (.ref a :: ws))[1 + j]? = some (some v) := fun j v hj => by
    have hlt : j < ws.length := (List.getElem?_eq_some_iff.mp hj).1
    unfold L2.start
    rw [List.getElem?_append_left (by rw [List.length_map, List.length_cons]; omega), List.getElem?_map, Nat.add_comm 1 j, List.getElem?_cons_succ, hj]
    rfl
  refine ⟨e0, ea, H, [], ⟨rfl, ea⟩, ?_, e0, fun p hp => ?_, fun H' h' => k H' ?_⟩
  · unfold parF
    rw [List.length_zipIdx, List.length_nil]
    omega
  · obtain ⟨q1, q2⟩ := zipIdx_snd hp
    obtain ⟨j, hj⟩ : ∃ j, p.2 = 1 + j := ⟨p.2 - 1, by omega⟩
    have hlt : j < ws.length := by omega
    exact ⟨ws[j], by rw [hj]; exact ew j _ (List.getElem?_eq_getElem hlt)⟩
  · unfold parF at h'
    rw [finF_par hl ew, List.append_nil] at h'
    exact h'
end

/-! ### raise C(e, ..) -/
def sRaise (c : Str) (ns : List Str) (gs : DEnv → M (List D)) : MS := fun ρ q => (gs ρ q).st fun ds q1 => if ds.length = ns.length then .exc c (ns.zip ds).reverse q1 else .bad
theorem takes0 {X : Cx} : Takes X (fun _ _ _ _ => False) := fun u s' ⟨_, _, _, _, _, _, _, _, _, _, _, _, _, _, _, _, w⟩ => w.elim
theorem RepL.zipR {K : PySem.W.Frag} {S : Sx} {F : Hp} {ns : List Str} {ds : List D} {vs : List V} (r : RepL K S F ds vs) (hl : ds.length = ns.length) : (ns.zip vs).reverse.map (·.1) = (ns.zip ds).reverse.map (·.1) ∧ RepL K S F ((ns.zip ds).reverse.map (·.2)) ((ns.zip vs).reverse.map (·.2)) := by
  have hv := r.length
  refine ⟨?_, ?_⟩
  · rw [List.map_reverse, List.map_reverse, List.map_fst_zip (by omega), List.map_fst_zip (by omega)]
  · rw [List.map_reverse, List.map_reverse, List.map_snd_zip (by omega), List.map_snd_zip (by omega)]
    exact r.reverse
section
variable {X : Cx} {C : Fx} {W : WX}
theorem ds_raise {x : Str} {e : Expr} {es : List Expr} {p pos pos' : Pos} {ns ps : List Str} {fI : Addr} {k : Nat} {fd : FuncData} {gs : DEnv → M (List D)} (hc : X.calm = true) (tk : Takes X W) (T : OexC X.K (He.ga X.K x)) (iC : PySem.W.findIn X.K (.ref (He.ga X.K x)) "__init__" = some (some (.ref fI)))
    (tI : PySem.W.typeIn X.K (.ref fI) = some (.type "function")) (F1 : FnOk X.prog X.w X.K X.mg X.base (L2.CX X.prog X.w) k fI fd ps (spInit (He.ga X.K x) ns)) (hr : Room (k + 1) X.A) (hb : Binds X.K fd ps []) (hm : X.mg x = some (.ref (He.ga X.K x))) (hn : ns ≠ []) (hz : ns.length ≤ 1000)
    (ha : PA X (e :: es) (tA X.K C W gs)) (hg : Gl X x := by rfl) (hdb : (x == ("__debug__" : Str)) = false := by decide) (he : starEach (e :: es) X.env = (false, eval e X.env) :: starEach es X.env := by rfl) (hpl : (backTo pos' (starEach es X.env)).any (·.1) = false := by rfl) :
    PS X (.Raise (some (.Call (.Name x p) (e :: es) [] pos')) none pos) (tS X.K C W (sRaise x ns gs)) := by
  have px : Passes (L2.CX X.prog X.w) X (fun _ _ _ => False) := fun pins σ H s er s' I c => cx_pass (W := fun _ _ _ _ => False) takes0 σ I c
  refine ps_imp (ps_raise hc tk (pmk_oex (dvs := []) T iC tI F1 hr hb .nil px hg hm ha hdb he hpl)) fun D σ H h => ?_
  obtain ⟨ρ, q, F, s, h⟩ := h
  refine ⟨ρ, q, F, s, PostS.seq s h fun ds vs q1 F1 H1 e1 s1 r1 h1 => ?_⟩
  split at h1
  · rename_i hl
    have hv := r1.length
    refine ⟨by omega, fun a ha => ⟨a, vs, by rw [List.append_nil], by omega, upd_same, fun H' hi => ⟨rfl, ?_⟩⟩⟩
    have ne : (ns.zip vs).reverse ≠ [] := fun z => hn (by
      have h2 := congrArg List.length z
      rw [List.length_reverse, List.length_zip, hv, hl, Nat.min_self] at h2
      exact List.length_eq_zero_iff.mp h2)
    generalize hf : (ns.zip vs).reverse = fs at hi ne
    cases fs with
    | nil => exact absurd rfl ne
    | cons p r =>
      obtain ⟨dx, hd, nd, k1, k2, k3⟩ := hi
      have hd1 : H1 dx = none := by rwa [upd_ne nd] at hd
      have eH : upd (del H' a) dx (.xd (p :: r)) = upd H1 dx (.xd (p :: r)) := by
        funext b
        by_cases hb : b = dx
        · rw [hb, upd_same, upd_same]
        · rw [upd_ne hb, upd_ne hb]
          by_cases h4 : b = a
          · rw [h4, del_same, ha]
          · rw [del_ne h4, k3 b h4 hb, upd_ne h4]
      refine ⟨dx, p :: r, k1, k2, hd1, ?_⟩
      rw [eH]
      obtain ⟨e2, w2, _⟩ := s1.wf.made hd1 (.xd (p :: r))
      obtain ⟨z1, z2⟩ := r1.zipR hl
      rw [hf] at z1 z2
      exact h1 _ _ σ _ _ (s1.ev.trans e2) w2 ⟨rfl, dx, p :: r, rfl, upd_same, z1, z2⟩
  · exact h1.elim
end
end Dl
namespace Dl
open PySem PySem.Spec PyProof.Rows L2

/-! ### several clauses 'except C as n' -/
abbrev Suite : Type := Addr → Value → Option Addr → TS
/-- the ends of a suite whose name goes -/
def dropE (i : Nat) (D : Ends) : Ends := { nx := fun σ' H' => D.nx (σ'.set i none) H', rt := D.rt, bk := fun σ' H' => D.bk (σ'.set i none) H', ct := fun σ' H' => D.ct (σ'.set i none) H' }
def wAll (K : PySem.W.Frag) (n i : Nat) (Wout : WX) (D : Ends) : List (Value × Suite) → WX
  | [] => Wout
  | (c, ts) :: r => fun cls d σ H => ∃ b, PySem.W.exmOne K cls c = some b ∧ (b = true → σ.length = n → ∀ a, H a = none → ts a cls d (dropE i D) (σ.set i (some (.ref a))) H) ∧ (b = false → wAll K n i Wout D r cls d σ H)
/-- one clause -/
structure ClOk (X : Cx) (n : Str) (hd : ExceptHandler) (p : Value × Suite) : Prop where
  ex : ∃ (x : Str) (np pos : Pos) (b : Stmt) (bs : List Stmt), hd = .ExceptHandler (some (.Name x np)) (some n) (b :: bs) pos ∧ Names X x p.1 ∧
    ∀ (a : Addr) (oe : Obj) (cls : Value) (d : Option Addr) (pn : List (Addr × Obj)), Zc cls d oe → (∃ vs, oe.data = .fields vs) → PSs (X.suite a ((a, oe) :: pn)) (b :: bs) (p.2 a cls d)
inductive ClsOk (X : Cx) (n : Str) : List ExceptHandler → List (Value × Suite) → Prop
  | nil : ClsOk X n [] []
  | cons {hd : ExceptHandler} {p : Value × Suite} {hds : List ExceptHandler} {l : List (Value × Suite)} : ClOk X n hd p → ClsOk X n hds l → ClsOk X n (hd :: hds) (p :: l)
section
variable {X : Cx}
theorem frs_not {B h : Heap} {es : List PySem.Env} {a : Addr} {o : Obj} {vs : Array Value} (ff : h.FunFrames B es) (e : h.get? a = some o) (dd : o.data = .fields vs) : a ∉ frs es := fun hm => by
  obtain ⟨_, o', e', hnf⟩ := ff.mem hm
  rw [e] at e'
  cases e'
  exact hnf _ dd
theorem ps_try_all {body : List Stmt} {h₀ : ExceptHandler} {hds : List ExceptHandler} {l : List (Value × Suite)} {n : Str} {pos : Pos} {tb : WX → TS} {Wout : WX} (i : Nat) (stk : X.stack = X.env :: X.outer) (fr : X.env.frame = some X.env.locals) (nd : X.N.Nodup) (ni : X.N[i]? = some n) (nl : X.env.kindOf n = some .local)
    (tk : Takes X Wout) (hb : ∀ (W : WX) (pn : List (Addr × Obj)) (xe : Value → Shared → Prop), Takes (X.tr pn xe) W → PassesOwn (model X.prog X.w) X.A X.env xe → PSs (X.tr pn xe) body (tb W)) (cl : ClsOk X n (h₀ :: hds) l) :
    PS X (.Try body (h₀ :: hds) [] [] pos) (fun D σ H => tb (wAll X.K X.N.length i Wout D l) D σ H) := by
  refine ⟨fun pins s σ H D I h => wpAny_Try_except ?_⟩
  have ok := I.ok
  have frames : X.A.frames = some (X.env :: X.outer) := by rw [ok.frames, stk]
  refine wpAny_mono ((hb (wAll X.K X.N.length i Wout D l) (X.pn ++ pins) (fun e s1 => wpAny (model X.prog X.w) X.A (noteFrame e X.env) (fun _ s2 => wpAny (model X.prog X.w) X.A (setFlight e none) (fun _ s3 =>
    wpAny (model X.prog X.w) X.A (handleBy e X.env (h₀ :: hds)) (SP X pins D) X.xe s3) X.xe s2) X.xe s1) (fun u s1 land => ?_) PassesOwn.looking).run [] s σ H D (I.toTry _) h) (fun fl s1 sp => ?_) fun _ _ z => z
  · obtain ⟨a, B, sI, pins1, σ1, H1, cls, d, rfl, I1, nb, up, sky, na, os, ag, w⟩ := land
    have J : Inv X pins σ1 H1 sI := I1.ofTry ok
    rw [stk] at sky
    show wpAny (model X.prog X.w) X.A (noteFrame (.ref a) X.env) _ _ _
    refine Sky.land Zc.steady frames fr sky fun g fl1 up1 => ?_
    have Jg : Inv X pins σ1 H1 { s1 with heap := g } := J.landed nb fl1.1 (up.trans up1) os ag
    obtain ⟨oe, ves, get, zc, dat⟩ := fl1.there
    have out : a ∉ frs (X.env :: X.outer) := frs_not fl1.2.2.1 get dat
    have neL : a ≠ X.env.locals := fun z => out (List.mem_filterMap.mpr ⟨X.env, List.mem_cons_self, by rw [fr, z]⟩)
    have neF : a ∉ X.fs := fun hm => by
      obtain ⟨en, hen, q⟩ := List.mem_filterMap.mp hm
      exact out (List.mem_filterMap.mpr ⟨en, List.mem_cons_of_mem _ hen, q⟩)
    have Sg := Jg.suite get dat na neL neF
    have search : ∀ {hs' : List ExceptHandler} {l' : List (Value × Suite)}, ClsOk X n hs' l' → wAll X.K X.N.length i Wout D l' cls d σ1 H1 → wpAny (model X.prog X.w) X.A (handleBy (.ref a) X.env hs') (SP X pins D) X.xe { s1 with heap := g } := by
      intro hs' l' k
      induction k with
      | nil =>
        intro w
        obtain ⟨_, _, _, oe1, ves1, T, oT, _, get1, _, dat1, at1, _⟩ := id fl1
        refine wpAny_handleBy_nil ?_
        unfold PySem.passOn
        refine wpAny_bind (wpAny_field get1 dat1 at1 ?_)
        rw [if_neg (show ¬ ((Value.ref T == Value.none) = true) from by simp)]
        have away : wpAny (model X.prog X.w) X.A (setFlight (.ref a) X.env.frame) (fun _ s2 => wpAny (model X.prog X.w) X.A (throw (.ref a) : Sem Flow) (SP X pins D) X.xe s2) X.xe { s1 with heap := g } := by
          rw [fr]
          exact HandSPX.setFlight_upZ fl1 fun g2 hg2 up2 => wpAny_throw (tk _ _ ⟨a, B, sI, pins, σ1, H1, cls, d, rfl, J, nb, (up.trans up1).trans up2, .inr (.inr (by rw [stk]; exact hg2)), na, os, ag, w⟩)
        first
        | exact wpAny_bind (wpAny_pure (wpAny_bind away))
        | exact wpAny_bind away
      | @cons hd p hds2 l2 one _ ih =>
        intro w
        obtain ⟨b, e1, yes, no⟩ := w
        obtain ⟨x, np, pos2, b0, bs, rfl, hc, suite⟩ := one.ex
        refine wpAny_handleBy_cons (codeAny_handlers_test ?_) (by intro q; cases q)
        have look1 : PySem.W.Looks (model X.prog X.w) g (typeOf (.ref a)) cls := fun A Q E s k q => wpAny_typeOf_ref (k _ _ get) (by rw [zc.1]; exact q)
        have look2 := PySem.W.exm_one (M := model X.prog X.w) Jg.kIn look1 e1
        have name : ∀ {Q : Value → Shared → Prop} {E : Value → Shared → Prop}, Q p.1 { s1 with heap := g } → wpAny (model X.prog X.w) (X.A.mark (some (.ref a))) (eval (.Name x np) X.env) Q E { s1 with heap := g } := fun {Q E} q => by
          obtain ⟨hg, hdb, m | ⟨m, v, nn⟩⟩ := hc
          · exact ld_glob (X := X.suite a ((a, oe) :: (X.pn ++ pins))) Sg hg m q hdb
          · exact ld_blt (X := X.suite a ((a, oe) :: (X.pn ++ pins))) Sg hg m v q nn hdb
        refine name (look2.here ?_)
        cases b with
        | false => exact ih (no rfl)
        | true =>
          refine codeAny_handlers_suite_as (HandSPX.lands_againZ fl1 fun g2 fl2 up2 => ?_)
          have J2 : Inv X pins σ1 H1 { s1 with heap := g2 } := J.landed nb fl2.1 ((up.trans up1).trans up2) os ag
          obtain ⟨oe2, ves2, get2, zc2, dat2⟩ := fl2.there
          refine store_ok (X := X.suite a ((a, oe2) :: (X.pn ++ pins))) (v := .ref a) (J2.suite get2 dat2 na neL neF) nd ni (.inl nl) rfl (fun s2 S2 => ?_) (.inr nl)
          refine wpAny_mono ((suite a oe2 cls d (X.pn ++ pins) zc2 ⟨_, dat2⟩).run [] s2 _ H1 _ S2 (yes rfl J.len a na)) (fun fl3 s3 sp3 => ?_) fun _ _ z => z.elim
          have gone : ∀ {σ3 : L2.St} {H3 : Hp} {Q : Shared → Prop}, Inv (X.suite a ((a, oe2) :: (X.pn ++ pins))) [] σ3 H3 s3 → (∀ s4, Inv X pins (σ3.set i none) H3 s4 → Q s4) →
              wpAny (model X.prog X.w) X.A (do bindName X.env n .none; unbindBehindTheSuite X.env n pos2) (fun _ s4 => Q s4) X.xe s3 := fun {σ3 H3 Q} S3 q => gone_ok (S3.unsuite ok) nd ni nl q
          cases fl3 with
          | ret u =>
            obtain ⟨v3, σ3, H3, S3, r3, q3⟩ := sp3
            exact gone S3 fun s4 J4 => ⟨_, _, _, J4, r3, q3⟩
          | next =>
            obtain ⟨σ3, H3, S3, q3⟩ := sp3
            exact gone S3 fun s4 J4 => ⟨_, _, J4, q3⟩
          | brk =>
            obtain ⟨σ3, H3, S3, q3⟩ := sp3
            exact gone S3 fun s4 J4 => ⟨_, _, J4, q3⟩
          | cont =>
            obtain ⟨σ3, H3, S3, q3⟩ := sp3
            exact gone S3 fun s4 J4 => ⟨_, _, J4, q3⟩
    exact search cl w
  · cases fl with
    | ret u =>
      obtain ⟨v, σ1, H1, J, r, q⟩ := sp
      exact ⟨v, σ1, H1, J.ofTry ok, r, q⟩
    | next =>
      obtain ⟨σ1, H1, J, q⟩ := sp
      exact wpAny_execs_nil ⟨σ1, H1, J.ofTry ok, q⟩
    | brk =>
      obtain ⟨σ1, H1, J, q⟩ := sp
      exact ⟨σ1, H1, J.ofTry ok, q⟩
    | cont =>
      obtain ⟨σ1, H1, J, q⟩ := sp
      exact ⟨σ1, H1, J.ofTry ok, q⟩
end
end Dl
namespace Dl
open PySem PySem.Spec PyProof.Rows L2 LamX

/-! ### a lambda is made -/
/-- the abstract heap behind it: the table as it was, or with one more entry -/
def LamH (H H1 : Hp) (P c' : Addr) (q : Str) : Prop := (H1 = H ∧ H c' = some (CodeO c' q)) ∨ ∃ ps ps' : Array Value, H P = some (.tbl ps) ∧ H c' = none ∧ H1 = upd (upd H P (.tbl ps')) c' (CodeO c' q)
theorem LamH.code {H H1 : Hp} {P c' : Addr} {q : Str} (h : LamH H H1 P c' q) : H1 c' = some (CodeO c' q) := by
  rcases h with ⟨rfl, e⟩ | ⟨_, _, _, _, rfl⟩
  · exact e
  · exact upd_same
theorem LamH.wf {S : Sx} {F H H1 : Hp} {P c' : Addr} {q : Str} {pq : PenS} (h : LamH H H1 P c' q) (w : Wf S pq F H) (t : Tabs S.T H1) : Ev S F H F H1 ∧ Wf S pq F H1 := by
  rcases h with ⟨rfl, e⟩ | ⟨ps, ps', hP, hc, rfl⟩
  · exact ⟨.refl, w⟩
  · have nP : ∀ b o, H b = some o → (∀ ps, o ≠ .tbl ps) → b ≠ P := fun b o e n z => by
      rw [z, hP] at e
      exact n ps (Option.some.inj e).symm
    have at_ : ∀ b o, H b = some o → (∀ ps, o ≠ .tbl ps) → upd (upd H P (.tbl ps')) c' (CodeO c' q) b = some o := fun b o e n => by
      rw [upd_ne (ne_of_none e hc), upd_ne (nP b o e n)]
      exact e
    refine ⟨⟨fun _ _ e => e, fun _ e _ => e, fun b o e _ n => at_ b o e n, fun b n => ?_⟩, ⟨fun b o e => ?_, w.fp, at_ _ _ w.pen nofun, at_ _ _ w.cel nofun, t, w.ft⟩⟩
    · by_cases hb : b = c'
      · rw [hb, upd_same]; simp
      · rw [upd_ne hb]
        by_cases hb2 : b = P
        · rw [hb2, upd_same]; simp
        · rw [upd_ne hb2]; exact n
    · exact at_ b o (w.sub b o e) fun ps z => w.ft b ps (by rw [e, z])
section
variable {X : Cx} {pins : List (Addr × Obj)} {σ : L2.St} {H : Hp} {s : Shared}
theorem new_free {f : Addr} (I : Inv X pins σ H s) (hf : s.heap.objs.size ≤ f) : f ∉ frs X.stack := fun z => by
  rcases List.mem_cons.mp (I.stkSub _ z) with e | e
  · have h1 := I.lt
    rw [← e] at h1
    exact Nat.lt_irrefl _ (Nat.lt_of_lt_of_le h1 hf)
  · exact I.nofs hf e
theorem tabs_more {T : List (Addr × Str)} {P c' : Addr} {q : Str} {ps : Array Value} {pos : Pos} (hT : Tabs T H) (hu : ∀ p ∈ T, p.1 = P → p.2 = q) (hP : H P = some (.tbl ps)) (tr : TriplesOk ps.toList) (all : ∀ (p' : Pos) (cv : Value), codeAmong p' ps.toList = some cv → ∃ c, cv = .ref c ∧ H c = some (CodeO c q)) (nc : H c' = none) :
    Tabs T (upd (upd H P (.tbl (ps ++ #[rawInt pos.line, rawInt pos.col, .ref c']))) c' (CodeO c' q)) := by
  have eL : (ps ++ #[rawInt pos.line, rawInt pos.col, .ref c']).toList = ps.toList ++ [rawInt pos.line, rawInt pos.col, .ref c'] := by simp
  have stay : ∀ b o, H b = some o → (∀ ps, o ≠ .tbl ps) → upd (upd H P (.tbl (ps ++ #[rawInt pos.line, rawInt pos.col, .ref c']))) c' (CodeO c' q) b = some o := fun b o e n => by
    rw [upd_ne (ne_of_none e nc), upd_ne (fun z => by
      rw [z, hP] at e
      exact n ps (Option.some.inj e).symm)]
    exact e
  intro p hp
  by_cases hb : p.1 = P
  · rw [hu p hp hb, hb]
    refine ⟨_, by rw [upd_ne (ne_of_none hP nc), upd_same], by rw [eL]; exact PySem.TriplesOk_snoc _ _ _ _ tr, fun p' cv hcv => ?_⟩
    rw [eL] at hcv
    rcases among_app _ tr hcv with z | z
    · obtain ⟨c0, e1, e2⟩ := all p' cv z
      exact ⟨c0, e1, stay _ _ e2 codeO_ne⟩
    · exact ⟨c', z, upd_same⟩
  · obtain ⟨ps', a1, a2, a3⟩ := hT p hp
    refine ⟨ps', by rw [upd_ne (ne_of_none a1 nc), upd_ne hb]; exact a1, a2, fun p' cv hcv => ?_⟩
    obtain ⟨c0, e1, e2⟩ := a3 p' cv hcv
    exact ⟨c0, e1, stay _ _ e2 codeO_ne⟩
/-- the object of the lambda -/
abbrev lamO (X : Cx) (params : Arguments) (body : Expr) (scope : Scope) (pm : Value) (c' : Addr) (ctv : Value) : Obj := PySem.W.kla_obj "<lambda>" (X.env.qual ++ "<lambda>") params body scope (cloFrom X.env.cells scope.names []) pm c' ctv
theorem lam_made {T : List (Addr × Str)} {c P : Addr} {params : Arguments} {body : Expr} {scope : Scope} {pos : Pos} {E : Value → Shared → Prop} {Q : Value → Shared → Prop} (I : Inv X pins σ H s) (TB : TabB X.base X.mg c P) (hcode : X.env.code = .ref c)
    (hm : (P, X.env.qual ++ "<lambda>") ∈ T) (hu : ∀ p ∈ T, p.1 = P → p.2 = X.env.qual ++ "<lambda>") (hT : Tabs T H) (hdef : defaultsOf params X.env = ([], [])) (L : LamS X.env.scope scope)
    (k : ∀ (f c' : Addr) (pm ctv : Value) (H1 : Hp) (s' : Shared), Inv X pins σ H1 s' → LamH H H1 P c' (X.env.qual ++ "<lambda>") → Tabs T H1 → s'.heap.get? f = some (lamO X params body scope pm c' ctv) → H1 f = none → f ∉ frs X.stack → Q (.ref f) s') :
    wpAny (model X.prog X.w) X.A (eval (.Lambda params body scope pos) X.env) Q E s := by
  obtain ⟨ps, hP, tr, all⟩ := hT _ hm
  have oP : s.heap.get? P = some { cls := .none, data := .fields ps } := I.hok P _ hP
  refine PySem.W.kla_eval hdef ?_
  cases found : codeAmong pos ps.toList with
  | some cv =>
    obtain ⟨c', rfl, hc'⟩ := all pos cv found
    refine PySem.W.kla_makeFunctionHit (mg := X.mg) (c := c) (P := P) (ps := ps) (closure_ok (L.has I.ok)) I.ok.glob (I.mod.glob.keeps I.bk) hcode (TB.code.keeps I.bk) oP tr found (TB.bm.keeps I.bk) fun ctv h' tk grow le => ?_
    exact k h'.objs.size c' _ ctv H _ (I.kept (t' := tk) fun b o e => Heap.get?_push_of_some _ (grow b o e)) (.inl ⟨rfl, hc'⟩) hT (Heap.get?_push_size _ rfl) (I.hok.fresh le) (new_free I le)
  | none =>
    refine PySem.W.kla_makeFunction (mg := X.mg) (c := c) (P := P) (ps := ps) (closure_ok (L.has I.ok)) I.ok.glob (I.mod.glob.keeps I.bk) hcode (TB.code.keeps I.bk) oP tr found TB.gP (TB.bm.keeps I.bk) fun c' v h' tk grow ge lt rec tb => ?_
    obtain ⟨c2, oc, vs, t, e2, hoc, hd, hv⟩ := rec
    cases e2
    have le : s.heap.objs.size ≤ h'.objs.size := Nat.le_trans ge (Nat.le_of_lt lt)
    have nc : H c' = none := I.hok.fresh ge
    have J := inv_table (t' := tk) (more := #[rawInt pos.line, rawInt pos.col, .ref c']) (q := X.env.qual ++ "<lambda>") (h' := h'.push (lamO X params body scope ((X.mg "__name__").getD .none) c' v)) I hP
      (fun b o hb e => Heap.get?_push_of_some _ (grow b o hb e)) (Heap.get?_push_of_some _ tb) ge ⟨oc, vs, t, Heap.get?_push_of_some _ hoc, hd, hv⟩
    refine k h'.objs.size c' _ v _ _ J (.inr ⟨ps, _, hP, nc, rfl⟩) (tabs_more hT hu hP tr all nc) (Heap.get?_push_size _ rfl) ?_ (new_free I le)
    rw [upd_ne (Nat.ne_of_gt lt), upd_ne (Nat.ne_of_gt (Nat.lt_of_lt_of_le (Heap.lt_size oP) le))]
    exact I.hok.fresh le
end

/-! ### a def that runs what it gets and tells the exception: try: a() / except C as n: return (tag, n.f, ..) / .. / return None -/
/-- class, tag, fields -/
abbrev Cl : Type := Str × Str × List Str
def faultRz (cls : List Cl) (r : Rz D) : Rz D := match r with
  | .ok _ q => .ok .non q
  | .exc c fs q => (match cls.lookup c with
    | some (tag, ns) => (match ns.mapM (fun f => fs.lookup f) with
      | some ds => .ok (.tup (.str tag :: ds)) q
      | none => .bad)
    | none => .bad)
  | .bad => .bad
def retTs (i : Nat) (tag : Str) (C : Addr) (ns : List Str) : Suite := fun a cls d D σ H => σ[i]? = some (some (.ref a)) ∧ cls = .ref C ∧ ∃ (dd : Addr) (fs : List (Str × V)) (vs : List V), d = some dd ∧ H dd = some (.xd fs) ∧ ns.mapM (fun f => fs.lookup f) = some vs ∧ ns.length ≤ 1000 ∧ ∀ p, H p = none → D.rt (.ref p) (upd H p (.tup (.str tag :: vs)))
theorem mapM_len {α β : Type} {f : α → Option β} : ∀ {l : List α} {r : List β}, l.mapM f = some r → r.length = l.length
  | [], r, h => by
    simp at h
    rw [h]
    rfl
  | x :: l, r, h => by
    rw [List.mapM_cons] at h
    cases e1 : f x with
    | none => rw [e1] at h; cases h
    | some y =>
      cases e2 : l.mapM f with
      | none => rw [e1, e2] at h; cases h
      | some r' =>
        rw [e1, e2] at h
        cases h
        rw [List.length_cons, List.length_cons, mapM_len e2]
/-- the reads of the fields -/
inductive FlsOk (Y : Cx) (a : Addr) (cls : Value) (d : Option Addr) (C : Addr) (i : Nat) : List Expr → List Str → Prop
  | nil : FlsOk Y a cls d C i [] []
  | cons {e : Expr} {es : List Expr} {f : Str} {fs : List Str} : PE Y e (tXf a cls d C f (tVar i)) → starEach (e :: es) Y.env = (false, eval e Y.env) :: starEach es Y.env → FlsOk Y a cls d C i es fs → FlsOk Y a cls d C i (e :: es) (f :: fs)
theorem pa_fls {Y : Cx} {a : Addr} {cls : Value} {d : Option Addr} {C : Addr} {i : Nat} : ∀ {es : List Expr} {ns : List Str}, FlsOk Y a cls d C i es ns →
    PA Y es (fun σ H Q => σ[i]? = some (some (.ref a)) ∧ cls = .ref C ∧ ∃ (dd : Addr) (fs : List (Str × V)) (vs : List V), d = some dd ∧ H dd = some (.xd fs) ∧ ns.mapM (fun f => fs.lookup f) = some vs ∧ Q vs H)
  | _, _, .nil => pa_imp pa_nil fun σ H Q h => by
    obtain ⟨_, _, dd, fs, vs, _, _, e, q⟩ := h
    simp at e
    rw [e] at q
    exact q
  | _, _, .cons (f := f) (fs := ns) h hs r => pa_imp (pa_cons h (pa_fls r) hs) fun σ H Q h => by
    obtain ⟨e0, ec, dd, fs, vs, ed, hd, e, q⟩ := h
    rw [List.mapM_cons] at e
    cases e1 : fs.lookup f with
    | none => rw [e1] at e; cases e
    | some v =>
      cases e2 : ns.mapM (fun f => fs.lookup f) with
      | none => rw [e1, e2] at e; cases e
      | some ws =>
        rw [e1, e2] at e
        cases e
        exact ⟨.ref a, e0, rfl, ec, dd, fs, v, ed, hd, e1, e0, ec, dd, fs, ws, ed, hd, e2, q⟩
theorem suite_ok {Y : Cx} {a : Addr} {cls : Value} {d : Option Addr} {C : Addr} {i j k : Nat} {tag : Str} {es : List Expr} {ns : List Str} {p1 p2 p3 : Pos} (h : FlsOk Y a cls d C i es ns) (hs : starEach (.Constant (.str tag) j p1 :: es) Y.env = (false, eval (.Constant (.str tag) j p1) Y.env) :: starEach es Y.env) :
    PSs Y [.Return (some (.Tuple (.Constant (.str tag) j p1 :: es) k p2)) p3] (retTs i tag C ns a cls d) := pss_imp (pss_one (ps_ret (pe_tup (pa_cons pe_str (pa_fls h) hs)))) fun D σ H h => by
  obtain ⟨e0, ec, dd, fs, vs, ed, hd, e, hl, q⟩ := h
  have := mapM_len e
  exact ⟨e0, ec, dd, fs, vs, ed, hd, e, line6 (by rw [List.length_cons]; omega), q⟩
end Dl
namespace Dl
open PySem PySem.Spec PyProof.Rows L2 LamX

/-! ### a def that runs a lambda and tells its exception -/
def clList (K : PySem.W.Frag) (i : Nat) (cls : List Cl) : List (Value × Suite) := cls.map fun c => (.ref (He.ga K c.1), retTs i c.2.1 (He.ga K c.1) c.2.2)
/-- the class c is told apart from the others -/
def Apart (K : PySem.W.Frag) (cls : List Cl) (c : Str) : Prop := ∀ p ∈ cls, PySem.W.exmOne K (.ref (He.ga K c)) (.ref (He.ga K p.1)) = some (decide (c = p.1))
theorem mapM_rep {K : PySem.W.Frag} {S : Sx} {F : Hp} {fs : List (Str × D)} {ws : List (Str × V)} (e : ws.map (·.1) = fs.map (·.1)) (r : RepL K S F (fs.map (·.2)) (ws.map (·.2))) : ∀ {ns : List Str} {ds : List D}, ns.mapM (fun f => fs.lookup f) = some ds → ∃ vs, ns.mapM (fun f => ws.lookup f) = some vs ∧ RepL K S F ds vs := by
  have one : ∀ {fs : List (Str × D)} {ws : List (Str × V)} {f : Str} {d : D}, ws.map (·.1) = fs.map (·.1) → RepL K S F (fs.map (·.2)) (ws.map (·.2)) → fs.lookup f = some d → ∃ v, ws.lookup f = some v ∧ Rep K S F d v := by
    intro fs
    induction fs with
    | nil => intro ws f d _ _ h; cases h
    | cons p fs ih =>
      intro ws f d e r h
      cases ws with
      | nil => cases e
      | cons u ws =>
        rw [List.map_cons, List.map_cons] at e r
        injection e with e1 e2
        cases r with
        | cons r1 r2 =>
          obtain ⟨g, dd⟩ := p
          obtain ⟨g', v⟩ := u
          dsimp only at e1 r1
          subst e1
          rw [lookup_put]
          by_cases hf : f = g'
          · rw [if_pos hf]
            subst hf
            rw [List.lookup_cons_self] at h
            cases h
            exact ⟨v, rfl, r1⟩
          · rw [if_neg hf]
            have hb : (f == g') = false := by simpa using hf
            rw [List.lookup_cons, hb] at h
            exact ih e2 r2 h
  intro ns
  induction ns with
  | nil =>
    intro ds h
    simp at h
    subst h
    exact ⟨[], rfl, .nil⟩
  | cons n ns ih =>
    intro ds h
    rw [List.mapM_cons] at h
    cases e1 : fs.lookup n with
    | none => rw [e1] at h; cases h
    | some d =>
      cases e2 : ns.mapM (fun f => fs.lookup f) with
      | none => rw [e1, e2] at h; cases h
      | some ds' =>
        rw [e1, e2] at h
        cases h
        obtain ⟨v, h1, h2⟩ := one e r e1
        obtain ⟨vs, h3, h4⟩ := ih e2
        refine ⟨v :: vs, ?_, .cons h2 h4⟩
        rw [List.mapM_cons, h1, h3]
        rfl
/-- the clauses' wish, for an exception that is told -/
theorem wAll_of {K : PySem.W.Frag} {n i : Nat} {D : Ends} {c : Str} {d : Option Addr} {H : Hp} {tag : Str} {ns : List Str} {dd : Addr} {ws : List (Str × V)} {vs : List V} (hi : i < n) (ed : d = some dd) (hd : H dd = some (.xd ws)) (hm : ns.mapM (fun f => ws.lookup f) = some vs) (hl : ns.length ≤ 1000)
    (q : ∀ p, H p = none → D.rt (.ref p) (upd H p (.tup (.str tag :: vs)))) : ∀ {cls : List Cl}, Apart K cls c → cls.lookup c = some (tag, ns) → ∀ σ', wAll K n i (fun _ _ _ _ => False) D (clList K i cls) (.ref (He.ga K c)) d σ' H
  | [], _, h, _ => by cases h
  | (c1, t1, n1) :: cls, ap, h, σ' => by
    have e1 := ap (c1, t1, n1) (List.mem_cons_self ..)
    refine ⟨_, e1, fun hb hlen a ha => ?_, fun hb => ?_⟩
    · have ec : c = c1 := of_decide_eq_true hb
      subst ec
      rw [List.lookup_cons_self] at h
      cases h
      exact ⟨List.getElem?_set_self (by omega), rfl, dd, ws, vs, ed, hd, hm, hl, q⟩
    · have ec : ¬ c = c1 := of_decide_eq_false hb
      have hb' : (c == c1) = false := by simpa using ec
      rw [List.lookup_cons, hb'] at h
      exact wAll_of hi ed hd hm hl q (fun p hp => ap p (List.mem_cons_of_mem _ hp)) h σ'
section
variable {X : Cx} {C : Fx} {W : WX}
theorem de_fault {cls : List Cl} {x a n : Str} {gA c P : Addr} {k : Nat} {pg : Arguments} {sg : Scope} {fd : FuncData} {Ng : List Str} {h₀ : ExceptHandler} {hds : List ExceptHandler} {p1 p2 p3 p4 p5 p6 : Pos} {j : Nat}
    {params : Arguments} {body : Expr} {scope : Scope} {g : DEnv → M D} {p lpos pos : Pos} (hm : X.mg x = some (.ref gA)) (Fu : FunD X.K x x pg [.Try [.Expr (.Call (.Name a p1) [] [] p2) p3] (h₀ :: hds) [] [] p4, .Return (some (.Constant .none j p5)) p6] sg [] [] gA fd)
    (hb : L2.Binds X.K fd [a] []) (Sg : FnScope Ng [a] sg) (hN0 : Ng[0]? = some a) (hN1 : Ng[1]? = some n) (hva : Vis sg a) (hvn : sg.names.lookup n = some .local)
    (hcl : ∀ (s : Shared) (H : Hp) (cdv : Value), ClsOk (cxOf C8.CX0 X.prog X.w X.K X.mg X.base Ng x sg gA cdv X.A X.stack s H C8.E0).nox n (h₀ :: hds) (clList X.K 1 cls)) (hap : ∀ c : Str, (cls.lookup c).isSome = true → Apart X.K cls c)
    (hlen : ∀ p ∈ cls, p.2.2.length ≤ 1000) (TB : TabB X.base X.mg c P) (hcode : X.env.code = .ref c) (hmT : (P, X.env.qual ++ "<lambda>") ∈ C.S.T) (hu : ∀ p ∈ C.S.T, p.1 = P → p.2 = X.env.qual ++ "<lambda>") (hr : Room (k + 2) X.A) (L : LamS X.env.scope scope) (hdef : defaultsOf params X.env = ([], []))
    (hbind : ∀ (q : Str) (cl : List (Str × Addr)) (pm cv ctv : Value), bindArgs (PySem.W.kla_fn "<lambda>" q params body scope cl pm cv ctv) ⟨[], []⟩ = pure [])
    (hbody : ∀ (A : Around) (outer : List Env) (s : Shared) (H : Hp) (E : XK) (f c' : Addr), Room k (A.deeper (lamEnv X scope s.heap.objs.size f c')) → PE (lamCx X A outer s H E scope f c') body (tE X.K C (fun cls d _ H' => E cls d H') g))
    (hg : Gl X x := by rfl) (hdb : (x == ("__debug__" : Str)) = false := by decide) (hd : (a == ("__debug__" : Str)) = false := by decide) (hcd : (a == ("__classdict__" : Str)) = false := by decide) :
    PE X (.Call (.Name x p) [.Lambda params body scope lpos] [] pos) (tE X.K C W (fun ρ q => faultRz cls (g ρ q))) := by
  refine ⟨fun pins s σ H Q I h => ?_⟩
  obtain ⟨ρ, q, F, st, h⟩ := h
  obtain ⟨oc, od, dV, kV, doc, pm, an, cdv, ct, osl, rfl, lk, hcg, _, _⟩ := Fu.ex
  refine wpAny_Call_Name_kw (ld_glob I hg hm ?_ hdb)
  refine PySem.W.callWith_K (h₀ := X.base) I.ok.mod.kin Fu.kp ?_ (by rfl) (by rfl)
  show wpAny _ _ (spliced ((false, eval (.Lambda params body scope lpos) X.env) :: backTo pos (starEach [] X.env))) _ _ s
  refine Calls.spliced_cons (lam_made I TB hcode hmT hu st.wf.tab hdef L fun f c' pm' ctv H1 s' I1 lh T1 hf hfn hfr => Calls.spliced_nil ⟨I1.kIn, ?_⟩)
  obtain ⟨e1, w1⟩ := lh.wf st.wf T1
  have st1 := st.step e1 w1
  have h1 : Post X.K C.S (fun cls d H' => W cls d σ H') F H1 (RE X.K C.S) (faultRz cls (g ρ q)) Q := Post.ev e1 h
  refine wpAny_call (codeAny_mono (run_ofS (CX := C8.CX0) (N := Ng) (ps := [a]) (us := [.ref f]) (vs := [.ref f]) (Q := Q) (E := C8.E0) lk hcg Sg hr I1.env0 (hb s' [.ref f] I1.kIn rfl) (.cons rfl .nil) rfl fun hr' => ?_) fun r s2 hq => ?_)
  · let Y := (cxOf C8.CX0 X.prog X.w X.K X.mg X.base Ng x sg gA cdv X.A X.stack s' H1 C8.E0).nox
    refine ⟨_, PSs.nox (pss_cons (ps_try_all (X := Y) (Wout := fun _ _ _ _ => False) (n := n) 1
      (tb := fun W' D σ' H' => ∃ Ech : XK, (∀ cls d σ2 H2, Ech cls d H2 → W' cls d σ2 H2) ∧ σ'[0]? = some (some (.ref f)) ∧ H' c' = some (CodeO c' (X.env.qual ++ "<lambda>")) ∧ tE X.K C (fun cls d _ H2 => Ech cls d H2) g σ H' fun _ H2 => D.nx σ' H2)
      rfl rfl Sg.nd hN1 hvn takes0 (fun W' pn xe tk _ => ⟨fun pins' s3 σ3 H3 D I3 h3 => ?_⟩) (hcl s' H1 cdv)) (pss_one (ps_ret pe_non))), ?_⟩
    · obtain ⟨Ech, hW, k1, k2, k3⟩ := h3
      have act := pe_act (CXg := C8.CX0) (Eg := C8.E0) (Ng := Ng) (i := 0) (p1 := p1) (p2 := p2) (E := Ech) I1 L hf hfn hfr (hbind _ _ _ _ _) tk hW hr' (fun A outer s H hr2 => hbody A outer s H Ech f c' hr2) hN0 hva hd hcd
      exact (pss_one (ps_expr (pos := p3) act (by rfl))).run pins' s3 σ3 H3 D I3 ⟨k1, k2, k3⟩
    · have e0 : (L2.start Ng [V.ref f])[0]? = some (some (V.ref f)) := rfl
      cases hgr : g ρ q with
      | bad => rw [hgr] at h1; exact h1.elim
      | ok z q2 =>
        rw [hgr] at h1
        refine ⟨fun _ _ _ => False, fun _ _ _ _ z => z.elim, e0, lh.code, ρ, q, F, st1, ?_⟩
        rw [hgr]
        exact fun v F2 H2 e2 w2 _ => h1 .non F2 H2 e2 w2 .non
      | exc ce fs q2 =>
        rw [hgr] at h1
        unfold faultRz at h1
        dsimp only at h1
        cases hlk : cls.lookup ce with
        | none => rw [hlk] at h1; exact h1.elim
        | some tn =>
          obtain ⟨tag, ns⟩ := tn
          rw [hlk] at h1
          dsimp only at h1
          cases hmp : ns.mapM (fun f => fs.lookup f) with
          | none => rw [hmp] at h1; exact h1.elim
          | some ds =>
            rw [hmp] at h1
            have hns : ns.length ≤ 1000 := by
              have hmem := PySem.mem_of_lookup hlk
              exact hlen _ hmem
            refine ⟨fun cl dx H2 => cl = .ref (He.ga X.K ce) ∧ ∃ dd ws vs, dx = some dd ∧ H2 dd = some (.xd ws) ∧ ns.mapM (fun f => ws.lookup f) = some vs ∧ ∀ p, H2 p = none → Q (.ref p) (upd H2 p (.tup (.str tag :: vs))), fun cl dx σ2 H2 ⟨ec, dd, ws, vs, k1, k2, k3, k4⟩ => ?_, e0, lh.code, ρ, q, F, st1, ?_⟩
            · subst ec
              have hlt : 1 < Ng.length := (List.getElem?_eq_some_iff.mp hN1).1
              exact wAll_of (n := Ng.length) hlt k1 k2 k3 hns k4 (hap ce (by rw [hlk]; rfl)) hlk σ2
            · rw [hgr]
              rintro cl dx F2 H2 e2 w2 ⟨ec, dd, ws, k1, k2, k3, k4⟩
              obtain ⟨vs, k5, k6⟩ := mapM_rep k3 k4 hmp
              exact ⟨ec, dd, ws, vs, k1, k2, k5, fun p hp => h1 _ _ _ (e2.trans (w2.new hp _).1) (w2.new hp _).2 (tup_new w2 hp (.cons (.str tag) k6))⟩
  · cases r with
    | error e => exact (show False from hq).elim
    | ok fl =>
      cases fl with
      | ret u => exact I1.after hq
      | next => exact False.elim hq
      | brk => exact False.elim hq
      | cont => exact False.elim hq
end
end Dl
namespace Dl
open PySem PySem.Spec PyProof.Rows L2

/-! ### sorted -/
def srtI (ns : List Int) : List Int := ns.mergeSort fun a b => decide (a ≤ b)
theorem srtI_eq {ys ks : List Int} (hp : ys.Perm ks) (hs : ys.Pairwise (· ≤ ·)) : ys = srtI ks := by
  have h1 : (srtI ks).Pairwise (· ≤ ·) := by
    have := List.pairwise_mergeSort (le := fun a b : Int => decide (a ≤ b)) (fun a b c h1 h2 => by simp at *; omega) (fun a b => by simp; omega) ks
    exact this.imp (by simp)
  exact List.Perm.eq_of_pairwise (fun a b _ _ h1 h2 => Int.le_antisymm h1 h2) hs h1 (hp.trans (List.mergeSort_perm _ _).symm)
/-! ### dicts by whole numbers -/
def kvK (kvs : List (Int × D)) : List (Key × D) := kvs.map fun p => (Sum.inl p.1, p.2)
def putD (kvs : List (Int × D)) (k : Int) (d : D) : List (Int × D) := if kvs.any (fun p => decide (p.1 = k)) then kvs.map fun p => if p.1 = k then (p.1, d) else p else kvs ++ [(k, d)]
/-- a dict's representation, entry by entry -/
inductive KvR (K : PySem.W.Frag) (S : Sx) (F : Hp) : List (Int × D) → List (Key × V) → Prop
  | nil : KvR K S F [] []
  | cons {k : Int} {d : D} {v : V} {kvs : List (Int × D)} {ws : List (Key × V)} : Rep K S F d v → KvR K S F kvs ws → KvR K S F ((k, d) :: kvs) ((.inl k, v) :: ws)
section
variable {K : PySem.W.Frag} {S : Sx} {F : Hp}
theorem KvR.of : ∀ {kvs : List (Int × D)} {ws : List (Key × V)}, ws.map (·.1) = kvs.map (fun p => Sum.inl p.1) → RepL K S F (kvs.map (·.2)) (ws.map (·.2)) → KvR K S F kvs ws
  | [], [], _, _ => .nil
  | (k, d) :: kvs, (k', v) :: ws, e, r => by
    rw [List.map_cons, List.map_cons] at e r
    injection e with e1 e2
    dsimp only at e1
    subst e1
    cases r with
    | cons r1 r2 => exact .cons r1 (KvR.of e2 r2)
  | [], _ :: _, e, _ => by cases e
  | _ :: _, [], e, _ => by cases e
theorem KvR.to : ∀ {kvs : List (Int × D)} {ws : List (Key × V)}, KvR K S F kvs ws → ws.map (·.1) = kvs.map (fun p => Sum.inl p.1) ∧ RepL K S F (kvs.map (·.2)) (ws.map (·.2))
  | _, _, .nil => ⟨rfl, .nil⟩
  | _, _, .cons r t => by
    obtain ⟨h1, h2⟩ := KvR.to t
    exact ⟨by rw [List.map_cons, List.map_cons, h1], .cons r h2⟩
theorem KvR.length {kvs : List (Int × D)} {ws : List (Key × V)} (r : KvR K S F kvs ws) : ws.length = kvs.length := by
  have := congrArg List.length r.to.1
  simpa using this
theorem KvR.get : ∀ {kvs : List (Int × D)} {ws : List (Key × V)} {k : Int} {d : D}, KvR K S F kvs ws → kvs.lookup k = some d → ∃ v, valV ws (.inl k) = some v ∧ Rep K S F d v
  | _, _, _, _, .nil, e => by cases e
  | _, _, k, d, .cons (k := k') r t, e => by
    by_cases h : k = k'
    · subst h
      rw [List.lookup_cons_self] at e
      cases e
      exact ⟨_, valV_pos rfl, r⟩
    · have hb : (k == k') = false := by simpa using h
      rw [List.lookup_cons, hb] at e
      obtain ⟨v, h1, h2⟩ := KvR.get t e
      exact ⟨v, by rw [valV_neg (fun z => h (by injection z with z; exact z.symm))]; exact h1, h2⟩
theorem KvR.keyAt : ∀ {kvs : List (Int × D)} {ws : List (Key × V)} {i : Nat} {k : Key} {v : V}, KvR K S F kvs ws → ws[i]? = some (k, v) → ∃ j d, kvs[i]? = some (j, d) ∧ k = .inl j
  | _, _, _, _, _, .nil, e => by simp at e
  | _, _, 0, _, _, .cons r t, e => by
    cases e
    exact ⟨_, _, rfl, rfl⟩
  | _, _, i + 1, _, _, .cons r t, e => by
    obtain ⟨j, d, h1, h2⟩ := KvR.keyAt (i := i) t (by simpa using e)
    exact ⟨j, d, by simpa using h1, h2⟩
theorem KvR.append : ∀ {kvs lvs : List (Int × D)} {ws us : List (Key × V)}, KvR K S F kvs ws → KvR K S F lvs us → KvR K S F (kvs ++ lvs) (ws ++ us)
  | _, _, _, _, .nil, s => s
  | _, _, _, _, .cons r t, s => .cons r (KvR.append t s)
theorem KvR.any : ∀ {kvs : List (Int × D)} {ws : List (Key × V)} {k : Int}, KvR K S F kvs ws → (ws.any fun kv => decide (kv.1 = Sum.inl k)) = kvs.any fun p => decide (p.1 = k)
  | _, _, _, .nil => rfl
  | _, _, k, .cons (k := k') r t => by
    rw [List.any_cons, List.any_cons, KvR.any t]
    congr 1
    simp
theorem KvR.repl : ∀ {kvs : List (Int × D)} {ws : List (Key × V)} {k : Int} {d : D} {v : V}, Rep K S F d v → KvR K S F kvs ws → KvR K S F (kvs.map fun p => if p.1 = k then (p.1, d) else p) (ws.map fun kv => if kv.1 = Sum.inl k then (kv.1, v) else kv)
  | _, _, _, _, _, _, .nil => .nil
  | _, _, k, d, v, r, .cons (k := k') r' t => by
    rw [List.map_cons, List.map_cons]
    by_cases h : k' = k
    · subst h
      rw [if_pos rfl, if_pos rfl]
      exact .cons r (KvR.repl r t)
    · rw [if_neg h, if_neg (fun z => h (by injection z))]
      exact .cons r' (KvR.repl r t)
theorem KvR.put {kvs : List (Int × D)} {ws : List (Key × V)} {k : Int} {d : D} {v : V} (r : Rep K S F d v) (t : KvR K S F kvs ws) : KvR K S F (putD kvs k d) (putK ws (.inl k) v) := by
  unfold putD putK
  rw [t.any]
  split
  · exact t.repl r
  · exact t.append (.cons r .nil)
theorem Br.dctAt {F H : Hp} {q : PenS} {kvs : List (Int × D)} {v : V} (w : Wf S q F H) (b : Br K S F H (.dct kvs) v) : ∃ a ws, v = .ref a ∧ Rd H a (.dK ws) ∧ KvR K S F kvs ws := by
  cases b with
  | rep r =>
    cases r with
    | dct h k r => exact ⟨_, _, rfl, .inr ⟨_, w.sub _ _ h⟩, .of k r⟩
  | dct h k r => exact ⟨_, _, rfl, .inl h, .of k r⟩
end
def getD_ : D → D → Option D
  | .dct kvs, .int k => kvs.lookup k
  | _, _ => none
def keysD : D → Option (List D)
  | .dct kvs => some (kvs.map fun p => .int p.1)
  | _ => none
def lenKD : List D → Option D
  | [.dct kvs] => some (.int kvs.length)
  | _ => none
def sortKD : List D → Option D
  | [.dct kvs] => if kvs.length < 64 then some (.lst ((srtI (kvs.map (·.1))).map D.int)) else none
  | _ => none
def pairD : D → Option (Int × D)
  | .tup [.int k, d] => some (k, d)
  | _ => none
def mergeD (more : List (Int × D)) : List (Int × D) := more.foldl (fun acc p => putD acc p.1 p.2) []
def dictD : D → Option D
  | .lst xs => (xs.mapM pairD).map fun kvs => .dct (mergeD kvs)
  | _ => none
section
variable {X : Cx} {C : Fx} {W : WX} {S : Sx}
theorem de_dget {ga gb : DEnv → M D} {a b : Expr} {pos : Pos} (hu : X.A.units + 1 < cLine) (ha : PE X a (tEb X.K C W ga)) (hb : PE X b (tE X.K C W gb)) (hs : NoSl b := by exact fun _ _ => rfl) : PE X (.Subscript a b pos) (tE X.K C W (g2 getD_ ga gb)) :=
  pe_imp (pe_dget hu ha hb hs) fun σ H Q h => by
    obtain ⟨ρ, q, F, s, h⟩ := h
    refine ⟨ρ, q, F, s, Post.seq h fun d x q1 F1 H1 e1 w1 r1 h1 => ?_⟩
    refine ⟨ρ, q1, F1, s.step e1 w1, Post.seq h1 fun e y q2 F2 H2 e2 w2 r2 h2 => ?_⟩
    have h3 := h2.lift
    have r1' := r1.up w1 e2
    unfold getD_ at h3
    split at h3
    · rename_i kvs k
      cases r2
      obtain ⟨p, ws, rfl, rd, kr⟩ := r1'.dctAt w2
      cases hz : kvs.lookup k with
      | none => rw [hz] at h3; exact h3.elim
      | some z =>
        obtain ⟨v, hv, rv⟩ := kr.get hz
        exact ⟨p, v, rfl, .inl ⟨ws, .inl k, rd, rfl, hv.symm⟩, h3.same w2 hz rv⟩
    · exact h3.elim
theorem wk_keys {K : PySem.W.Frag} {S : Sx} {a : Addr} {o : Obj} {kvs : List (Int × D)} {ws : List (Key × V)} {F0 : Hp} (r : KvR K S F0 kvs ws) : Wk K S (Itk a o ws) (kvs.map fun p => .int p.1) (fun F H => H a = some (.frz o (.dK ws))) where
  go := fun i F H q hi w g => ⟨g, by rw [r.length]; simpa using hi⟩
  stop := fun F H q w g => ⟨g, by rw [r.length]; simp⟩
  yld := fun i F H q x H' hi w g y => by
    obtain ⟨e, k, v, h1, rfl⟩ := y
    subst e
    obtain ⟨j, d, h2, rfl⟩ := r.keyAt h1
    refine ⟨F, .int j, .refl, w, ?_, .int j⟩
    rw [List.getElem?_map, h2]
    rfl
theorem di_keys {tg l : Expr} {g : DEnv → M D} (h : PE X l (tE X.K C W g)) : PI X tg l (tIf X.K C W (g1 keysD g)) := pi_imp (pi_keys h) fun σ H R h => by
  obtain ⟨ρ, q, F, s, h⟩ := h
  refine ⟨ρ, q, F, s, Post.seq h fun d x q1 F1 H1 e1 w1 r1 h1 => ?_⟩
  have h2 := h1.lift
  cases d with
  | dct kvs =>
    cases r1 with
    | @dct a o _ ws h3 hk h4 => exact ⟨a, o, rfl, .inl ⟨ws, w1.sub _ _ h3, h2 _ F1 H1 .refl w1 ⟨_, wk_keys (.of hk h4), fun F' H' e w => w.choose_spec.sub _ _ (e _ _ h3)⟩⟩⟩
  | _ => exact h2.elim
theorem cd_lenK : CallR X (.builtin "len") (rDN X.K S lenKD) := by
  intro pins s σ H xs us Q I rx h
  obtain ⟨q, F, ds, w, r, res⟩ := h
  unfold lenKD at res
  split at res
  · obtain ⟨v, rfl, b⟩ := r.inv1
    obtain ⟨u, rfl, ru⟩ := vals1 rx
    obtain ⟨a, ws, rfl, rd, kr⟩ := b.dctAt w
    cases ru
    refine d_len I rd fun t s' I' => ⟨.int ws.length, H, I', ⟨t, rfl⟩, ?_⟩
    rw [kr.length]
    exact res.same w rfl (.int _)
  · exact res.elim
theorem cn_sortK (hc : X.calm = true) : CallR X (.builtin "sorted") (rNN X.K S sortKD) := call_imp (call_sortedDI hc) fun xs H Q h => by
  obtain ⟨q, F, ds, w, r, res⟩ := h
  unfold sortKD at res
  split at res
  · rename_i kvs
    split at res
    · rename_i hl
      obtain ⟨v, rfl, b⟩ := r.inv1
      obtain ⟨a, ws, rfl, rd, kr⟩ := b.dctAt w
      refine ⟨a, ws, kvs.map (·.1), rfl, rd, by rw [kr.to.1, List.map_map]; rfl, by simpa using hl, fun ys p hp hs hn => ?_⟩
      have e := srtI_eq hp hs
      subst e
      exact res.freshL w rfl (by
        have : ∀ ns : List Int, RepL X.K S F (ns.map D.int) (ns.map V.int) := fun ns => by
          induction ns with
          | nil => exact .nil
          | cons n r ih => exact .cons (.int n) ih
        exact this _) hn
    · exact res.elim
  · exact res.elim
/-- an object that is handed over is locked -/
theorem PE.lock {e : Expr} {t : TE} (h : PE X e t) : PE X e (fun σ H Q => t σ H fun v H1 => ∃ a u, v = .ref a ∧ H1 a = some u ∧ Mut (some u) ∧ ∀ od, Q v (upd H1 a (.frz od u))) := ⟨fun pins s σ H Q I w => thn (h.run pins s σ H _ I w) fun v s1 ⟨x, H1, I1, r1, a, u, ev, ha, mu, q⟩ => by
  obtain ⟨od, I2⟩ := I1.lock ha mu
  exact ⟨x, _, I2, r1, q od⟩⟩
theorem dct_new {K : PySem.W.Frag} {S : Sx} {F H : Hp} {q : PenS} (w : Wf S q F H) {a : Addr} (ha : H a = none) {kvs : List (Int × D)} {ws : List (Key × V)} (r : KvR K S F kvs ws) (od : Obj) :
    upd (upd H a (.dK ws)) a (.frz od (.dK ws)) = upd H a (.frz od (.dK ws)) ∧ Ev S F H (upd F a (.frz od (.dK ws))) (upd H a (.frz od (.dK ws))) ∧ Wf S q (upd F a (.frz od (.dK ws))) (upd H a (.frz od (.dK ws))) ∧ Rep K S (upd F a (.frz od (.dK ws))) (.dct kvs) (.ref a) := by
  refine ⟨?_, (w.new ha _).1, (w.new ha _).2, .dct upd_same r.to.1 (r.to.2.up (w.new ha _).1.f)⟩
  funext b
  by_cases hb : b = a
  · rw [hb, upd_same, upd_same]
  · rw [upd_ne hb, upd_ne hb, upd_ne hb]
/-- {} that stays -/
theorem de_dict0 {pos : Pos} : PE X (.Dict [] [] pos) (tE X.K C W (gC (.dct []))) := pe_imp (PE.lock pe_dnewK) fun σ H Q h => by
  obtain ⟨ρ, q, F, s, h⟩ := h
  intro p hp
  refine ⟨p, .dK [], rfl, upd_same, trivial, fun od => ?_⟩
  obtain ⟨e, e2, w2, r⟩ := dct_new (K := X.K) s.wf hp .nil od
  rw [e]
  exact h _ _ _ e2 w2 r
theorem pairs_at {K : PySem.W.Frag} {S : Sx} {F H : Hp} {q : PenS} (w : Wf S q F H) : ∀ {xs : List D} {vs : List V} {kvs : List (Int × D)}, RepL K S F xs vs → xs.mapM pairD = some kvs → ∃ ps ws, vs = ps.map V.ref ∧ Paired (fun p (kv : Key × V) => SqT K H p [kV kv.1, kv.2]) ps ws ∧ KvR K S F kvs ws
  | [], _, kvs, r, e => by
    cases r
    simp at e
    subst e
    exact ⟨[], [], rfl, .nil, .nil⟩
  | x :: xs, _, kvs, r, e => by
    cases r with
    | @cons _ v _ vs r t =>
      rw [List.mapM_cons] at e
      cases e1 : pairD x with
      | none => rw [e1] at e; cases e
      | some p =>
        cases e2 : xs.mapM pairD with
        | none => rw [e1, e2] at e; cases e
        | some r' =>
          rw [e1, e2] at e
          cases e
          obtain ⟨ps, ws, h1, h2, h3⟩ := pairs_at w t e2
          unfold pairD at e1
          split at e1
          · cases e1
            cases r with
            | @tup a _ us h4 h5 =>
              cases h5 with
              | cons h6 h7 =>
                cases h6
                obtain ⟨u, rfl, ru⟩ := h7.inv1
                exact ⟨a :: ps, (.inl _, u) :: ws, by rw [h1]; rfl, .cons (h4.up w.sub).sq h2, .cons ru h3⟩
          · cases e1
theorem KvR.merge {K : PySem.W.Frag} {S : Sx} {F : Hp} : ∀ {more acc : List (Int × D)} {rs ws : List (Key × V)}, KvR K S F more rs → KvR K S F acc ws → KvR K S F (more.foldl (fun acc p => putD acc p.1 p.2) acc) (rs.foldl (fun acc kv => putK acc kv.1 kv.2) ws)
  | _, _, _, _, .nil, s => s
  | _, _, _, _, .cons (k := k) r t, s => by
    rw [List.foldl_cons, List.foldl_cons]
    exact KvR.merge t (s.put (k := k) r)
/-- dict([(k, v), ..]) -/
theorem de_dict {e : Expr} {g : DEnv → M D} {p pos : Pos} (hc : X.calm = true) (hm : X.mg "dict" = none) (ha : PE X e (tEb X.K C W g)) (hg : Gl X "dict" := by rfl) (hv : bootBuiltins "dict" = some (.type "dict") := by with_unfolding_all rfl)
    (he : starEach [e] X.env = (false, eval e X.env) :: starEach [] X.env := by rfl) (hpl : (backTo pos (starEach [] X.env)).any (·.1) = false := by rfl) : PE X (.Call (.Name "dict" p) [e] [] pos) (tE X.K C W (g1 dictD g)) :=
  pe_imp (PE.lock (pe_callTy (call_dictP hc) hg hm hv (pa_cons ha pa_nil he) (by decide) (by decide) he hpl)) fun σ H Q h => by
    obtain ⟨ρ, q, F, s, h⟩ := h
    refine ⟨ρ, q, F, s, Post.seq h fun d x q1 F1 H1 e1 w1 r1 h1 => ?_⟩
    have h2 := h1.lift
    unfold dictD at h2
    split at h2
    · rename_i xs
      obtain ⟨a, vs, rfl, h3, t3⟩ := r1.seq w1
      cases hz : xs.mapM pairD with
      | none => rw [hz] at h2; exact h2.elim
      | some kvs =>
        rw [hz] at h2
        obtain ⟨ps, ws, rfl, pr, kr⟩ := pairs_at w1 t3 hz
        refine ⟨a, ps, ws, rfl, SqL.of h3, pr, fun p hp => ⟨p, _, rfl, upd_same, trivial, fun od => ?_⟩⟩
        obtain ⟨e4, e5, w5, r5⟩ := dct_new (K := X.K) (ws := mergeK [] ws) w1 hp (KvR.merge kr .nil) od
        rw [e4]
        exact h2 _ _ _ e5 w5 r5
    · exact h2.elim

/-! ### an own dict -/
def gDct (i : Nat) : DEnv → M D := fun ρ q => match ρ[i]? with
  | some (some (.dct kvs)) => .ok (.dct kvs) q
  | _ => .bad
/-- xs[k] = e, xs an own dict -/
def sDput (i : Nat) (gk g : DEnv → M D) : MS := fun ρ q => match ρ[i]? with
  | some (some (.dct kvs)) => (g ρ q).st fun d q1 => (gk ρ q1).st fun k q2 => match k with
    | .int n => if kvs.length < 100000 then .nx (ρ.set i (some (.dct (putD kvs n d)))) q2 else .bad
    | _ => .bad
  | _ => .bad
theorem own_dct {ρ : DEnv} {q : PenS} {F : Hp} {σ : L2.St} {H : Hp} {i : Nat} {kvs : List (Int × D)} (s : StR X.K C ρ q F σ H) (ho : C.own i = true) (e : ρ[i]? = some (some (.dct kvs))) : ∃ a ws, σ[i]? = some (some (.ref a)) ∧ F a = none ∧ C.H0 a = none ∧ H a = some (.dK ws) ∧ KvR X.K C.S F kvs ws := by
  obtain ⟨v, h1, h2⟩ := s.env.val i _ e
  unfold SlotR at h2
  rw [if_pos ho] at h2
  obtain ⟨a, o, rfl, h3, h4, ha, r⟩ := h2
  cases r with
  | dct k r => exact ⟨a, _, h1, h3, h4, ha, .of k r⟩
/-- x = {}, x own -/
theorem ds_dict0 {x : Str} {p pos pos' : Pos} (i : Nat) (ho : C.own i = true) (hN : X.N.Nodup) (hi : X.N[i]? = some x := by rfl) (hx : Loc X.env.scope x := by first | exact .inl rfl | exact .inr rfl) (hs : swapsWith (.Dict [] [] p) (some (.Name x pos')) pos.line X.env = pure false := by rfl)
    (hf : X.fn x = true ∨ X.env.scope.names.lookup x = some .local := by first | exact .inl rfl | exact .inr rfl | assumption) : PS X (.Assign [.Name x pos'] (.Dict [] [] p) pos) (tS X.K C W (sSet i (gC (.dct [])))) := ps_imp (ps_set hN hi hx pe_dnewK hs hf) fun D σ H h => by
  obtain ⟨ρ, q, F, s, h⟩ := h
  intro a ha
  obtain ⟨e2, w2, f2⟩ := s.wf.made ha (.dK [])
  have n0 : C.H0 a = none := by
    cases z : C.H0 a with
    | none => rfl
    | some o => exact absurd ha (s.ev.k a (by rw [z]; simp))
  refine h _ F _ (fun _ _ e => e) ((s.step e2 w2).setO (on := .dK []) ho f2 n0 upd_same (.dct rfl .nil) fun j d hj oj hd z => ?_)
  obtain ⟨v, k1, k2⟩ := s.env.val j d hd
  rw [z] at k1
  cases k1
  unfold SlotR at k2
  rw [if_pos oj] at k2
  obtain ⟨b, ob, e2, _, _, hb, _⟩ := k2
  cases e2
  rw [ha] at hb
  cases hb
theorem ds_dput {x : Str} {j e : Expr} {gk g : DEnv → M D} {p spos pos : Pos} (i : Nat) (hu : X.A.units + 1 < cLine) (ho : C.own i = true) (hj : PE X j (tE X.K C W gk)) (he : PE X e (tE X.K C W g)) (hN : X.N[i]? = some x := by rfl) (hv : Vis X.env.scope x := by first | exact Or.inl rfl | exact Or.inr (Or.inl rfl) | exact Or.inr (Or.inr rfl)) (hd : (x == ("__debug__" : Str)) = false := by decide)
    (hcd : (x == ("__classdict__" : Str)) = false := by decide) (hs : swapsWith e (some (.Subscript (.Name x p) j spos)) pos.line X.env = pure false := by rfl) : PS X (.Assign [.Subscript (.Name x p) j spos] e pos) (tS X.K C W (sDput i gk g)) :=
  ps_imp (ps_dput hu (pe_var hN hv hd hcd) hj he hs) fun D σ H h => by
    obtain ⟨ρ, q, F, s, h⟩ := h
    unfold sDput at h
    split at h
    · rename_i kvs er
      refine ⟨ρ, q, F, s, PostS.seq s h fun d v q1 F1 H1 e1 s1 r1 k1 => ?_⟩
      obtain ⟨a, ws, h1, _, _, h4, h5⟩ := own_dct s1 ho er
      refine ⟨.ref a, h1, ρ, q1, F1, s1, PostS.seq s1 k1 fun k u q2 F2 H2 e2 s2 r2 k2 => ?_⟩
      obtain ⟨a', ws2, g1, _, _, g4, g5⟩ := own_dct s2 ho er
      rw [h1] at g1
      cases g1
      cases k with
      | int n =>
        cases r2
        dsimp only at k2
        split at k2
        · rename_i hl
          have kr := g5.put (k := n) (r1.up e2.f)
          exact ⟨a, _, rfl, .inl ⟨ws2, .inl n, g4, rfl, Nat.lt_of_lt_of_le (by rw [g5.length]; exact hl) (line5 (Nat.le_refl _)), rfl⟩, k2 σ F2 _ (fun _ _ e => e) (s2.wr ho er h1 (.dct kr.to.1 kr.to.2))⟩
        · exact k2.elim
      | _ => exact k2.elim
    · exact h.elim
/-- return x, x an own dict -/
theorem ds_retD {x : Str} {p pos : Pos} (i : Nat) (ho : C.own i = true) (hN : X.N[i]? = some x := by rfl) (hv : Vis X.env.scope x := by first | exact Or.inl rfl | exact Or.inr (Or.inl rfl) | exact Or.inr (Or.inr rfl)) (hd : (x == ("__debug__" : Str)) = false := by decide)
    (hcd : (x == ("__classdict__" : Str)) = false := by decide) : PS X (.Return (some (.Name x p)) pos) (tS X.K C W (sRet (gDct i))) := ps_imp (ps_ret (PE.lock (pe_var hN hv hd hcd))) fun D σ H h => by
  obtain ⟨ρ, q, F, s, h⟩ := h
  unfold sRet gDct at h
  split at h
  · rename_i kvs er
    obtain ⟨a, ws, h1, f0, h0, ha, kr⟩ := own_dct s ho er
    obtain ⟨np, nc⟩ := s.np h0
    refine ⟨.ref a, h1, a, _, rfl, ha, trivial, fun od => ?_⟩
    have up : ∀ b o, F b = some o → upd F a (.frz od (.dK ws)) b = some o := fun b o e => by
      rw [upd_ne (fun z => by rw [z, f0] at e; cases e)]
      exact e
    refine h _ (upd F a (.frz od (.dK ws))) _ ⟨fun b o e => up b o (s.ev.f b o e), fun b e n => ?_, fun b o e n t => ?_, fun b n => ?_⟩ ⟨fun b o e => ?_, ?_, ?_, ?_, (OwnO.dct (K := X.K) (S := C.S) (F := F) kr.to.1 kr.to.2).tabs s.wf.tab ha, fun b ps z => ?_⟩ (.dct upd_same kr.to.1 (kr.to.2.up up))
    · rw [upd_ne (fun z => n (by rw [z]; exact h0))]
      exact s.ev.n b e n
    · rw [upd_ne (fun z => by rw [z, h0] at e; cases e)]
      exact s.ev.h b o e n t
    · by_cases hb : b = a
      · rw [hb, upd_same]; simp
      · rw [upd_ne hb]; exact s.ev.k b n
    · by_cases hb : b = a
      · rw [hb, upd_same] at e ⊢
        exact e
      · rw [upd_ne hb] at e ⊢
        exact s.wf.sub b o e
    · rw [upd_ne (Ne.symm np)]; exact s.wf.fp
    · rw [upd_ne (Ne.symm np)]; exact s.wf.pen
    · rw [upd_ne (Ne.symm nc)]; exact s.wf.cel
    · by_cases hb : b = a
      · rw [hb, upd_same] at z
        cases z
      · rw [upd_ne hb] at z
        exact s.wf.ft b ps z
  · exact h.elim
end
end Dl
namespace Dl
open PySem PySem.Spec PyProof.Rows L2

/-! ### the pen's fields -/
inductive PF where
  | at_ | digits | count | fold
def PF.key : PF → Str
  | .at_ => "at"
  | .digits => "digits"
  | .count => "count"
  | .fold => "fold"
def PF.get : PF → PenS → Int
  | .at_, q => q.at_
  | .digits, q => q.digits
  | .count, q => q.count
  | .fold, q => q.fold
def PF.put : PF → PenS → Int → PenS
  | .at_, q, i => { q with at_ := i }
  | .digits, q, i => { q with digits := i }
  | .count, q, i => { q with count := i }
  | .fold, q, i => { q with fold := i }
def gPen (i : Nat) (f : PF) : DEnv → M D := fun ρ q => match ρ[i]? with
  | some (some .pen) => .ok (.int (f.get q)) q
  | _ => .bad
def gCel (i : Nat) : DEnv → M D := fun ρ q => match ρ[i]? with
  | some (some .pen) => .ok (.lst (q.cells.map D.int)) q
  | _ => .bad
/-- pen[f] = e -/
def sPen (i : Nat) (f : PF) (g : DEnv → M D) : MS := fun ρ q => match ρ[i]? with
  | some (some .pen) => (g ρ q).st fun d q1 => match d with
    | .int n => .nx ρ (f.put q1 n)
    | _ => .bad
  | _ => .bad
theorem pen_get (c : Addr) (q : PenS) (f : PF) : valV (penK c q) (.inr f.key) = some (.int (f.get q)) := by cases f <;> rfl
theorem pen_cel (c : Addr) (q : PenS) : valV (penK c q) (.inr "cells") = some (.ref c) := rfl
theorem pen_put (c : Addr) (q : PenS) (f : PF) (n : Int) : putK (penK c q) (.inr f.key) (.int n) = penK c (f.put q n) := by cases f <;> rfl
section
variable {X : Cx} {C : Fx} {W : WX}
theorem pen_at {ρ : DEnv} {q : PenS} {F : Hp} {σ : L2.St} {H : Hp} {i : Nat} (s : StR X.K C ρ q F σ H) (ho : C.own i = false) (e : ρ[i]? = some (some .pen)) : σ[i]? = some (some (.ref C.S.p)) := by
  obtain ⟨v, h1, r⟩ := s.get e ho
  cases r
  exact h1
theorem de_pen (i : Nat) (f : PF) {x k : Str} {j : Nat} {p p2 pos : Pos} (hk : f.key = k) (hu : X.A.units + 1 < cLine) (ho : C.own i = false) (hN : X.N[i]? = some x := by rfl) (hv : Vis X.env.scope x := by first | exact Or.inl rfl | exact Or.inr (Or.inl rfl) | exact Or.inr (Or.inr rfl))
    (hd : (x == ("__debug__" : Str)) = false := by decide) (hcd : (x == ("__classdict__" : Str)) = false := by decide) : PE X (.Subscript (.Name x p) (.Constant (.str k) j p2) pos) (tE X.K C W (gPen i f)) :=
  pe_imp (pe_dget hu (pe_var hN hv hd hcd) pe_str fun _ _ => rfl) fun σ H Q h => by
    obtain ⟨ρ, q, F, s, h⟩ := h
    unfold gPen at h
    split at h
    · rename_i e
      subst hk
      exact ⟨_, pen_at s ho e, C.S.p, _, rfl, .inl ⟨_, .inr f.key, .inl s.wf.pen, rfl, (pen_get C.S.c q f).symm⟩, h _ F H .refl s.wf (.int _)⟩
    · exact h.elim
theorem de_cel (i : Nat) {x : Str} {j : Nat} {p p2 pos : Pos} (hu : X.A.units + 1 < cLine) (ho : C.own i = false) (hN : X.N[i]? = some x := by rfl) (hv : Vis X.env.scope x := by first | exact Or.inl rfl | exact Or.inr (Or.inl rfl) | exact Or.inr (Or.inr rfl))
    (hd : (x == ("__debug__" : Str)) = false := by decide) (hcd : (x == ("__classdict__" : Str)) = false := by decide) : PE X (.Subscript (.Name x p) (.Constant (.str "cells") j p2) pos) (tEb X.K C W (gCel i)) :=
  pe_imp (pe_dget hu (pe_var hN hv hd hcd) pe_str fun _ _ => rfl) fun σ H Q h => by
    obtain ⟨ρ, q, F, s, h⟩ := h
    unfold gCel at h
    split at h
    · rename_i e
      refine ⟨_, pen_at s ho e, C.S.p, _, rfl, .inl ⟨_, .inr "cells", .inl s.wf.pen, rfl, (pen_cel C.S.c q).symm⟩, h _ F H .refl s.wf (.lst s.wf.cel ?_)⟩
      have : ∀ ns : List Int, RepL X.K C.S F (ns.map D.int) (ns.map V.int) := fun ns => by
        induction ns with
        | nil => exact .nil
        | cons n r ih => exact .cons (.int n) ih
      exact this _
    · exact h.elim
theorem StR.pen {ρ : DEnv} {q : PenS} {F : Hp} {σ : L2.St} {H : Hp} (s : StR X.K C ρ q F σ H) (f : PF) (n : Int) : StR X.K C ρ (f.put q n) F σ (upd H C.S.p (.dK (penK C.S.c (f.put q n)))) := by
  have np : ∀ b o, F b = some o → b ≠ C.S.p := fun b o e z => by
    rw [z, s.wf.fp] at e
    cases e
  refine s.step ⟨fun _ _ e => e, fun _ e _ => e, fun b o e ne _ => by rw [upd_ne ne]; exact e, fun b ne => ?_⟩ ⟨fun b o e => by rw [upd_ne (np b o e)]; exact s.wf.sub b o e, s.wf.fp, upd_same, ?_, tabs_upd s.wf.tab s.wf.pen nofun fun c z h => ?_, s.wf.ft⟩
  · by_cases hb : b = C.S.p
    · rw [hb, upd_same]; simp
    · rw [upd_ne hb]; exact ne
  · rw [upd_ne s.wf.cp, s.wf.cel]
    cases f <;> rfl
  · unfold LamX.CodeO at h
    cases h
theorem ds_pen (i : Nat) (f : PF) {x k : Str} {e : Expr} {g : DEnv → M D} {j : Nat} {p p2 spos pos : Pos} (hk : f.key = k) (hu : X.A.units + 1 < cLine) (ho : C.own i = false) (he : PE X e (tE X.K C W g)) (hN : X.N[i]? = some x := by rfl) (hv : Vis X.env.scope x := by first | exact Or.inl rfl | exact Or.inr (Or.inl rfl) | exact Or.inr (Or.inr rfl))
    (hd : (x == ("__debug__" : Str)) = false := by decide) (hcd : (x == ("__classdict__" : Str)) = false := by decide) (hs : swapsWith e (some (.Subscript (.Name x p) (.Constant (.str k) j p2) spos)) pos.line X.env = pure false := by rfl) :
    PS X (.Assign [.Subscript (.Name x p) (.Constant (.str k) j p2) spos] e pos) (tS X.K C W (sPen i f g)) :=
  ps_imp (ps_dput hu (pe_var hN hv hd hcd) pe_str he hs) fun D σ H h => by
    obtain ⟨ρ, q, F, s, h⟩ := h
    unfold sPen at h
    split at h
    · rename_i er
      subst hk
      refine ⟨ρ, q, F, s, PostS.seq s h fun d v q1 F1 H1 e1 s1 r1 k1 => ?_⟩
      cases d with
      | int n =>
        cases r1
        refine ⟨_, pen_at s1 ho er, C.S.p, _, rfl, .inl ⟨_, .inr f.key, s1.wf.pen, rfl, ?_, rfl⟩, ?_⟩
        · show 5 < sizeLine
          rw [sizeLine_eq]
          decide
        · rw [pen_put]
          exact k1 σ F1 _ (fun _ _ e => e) (s1.pen f n)
      | _ => exact k1.elim
    · exact h.elim

/-! ### the pen is made -/
def pen0 (ns : List Int) (fold : Int) : PenS := ⟨ns, 0, 0, 0, fold⟩
end

/-! ### a slot that holds a def, called -/
/-- what the def at an address does -/
abbrev Tab : Type := Addr → Option (List D → M D)
def gCallL (i : Nat) (T : Tab) (n : Nat) (gs : DEnv → M (List D)) : DEnv → M D := fun ρ q => match ρ[i]? with
  | some (some (.ref f)) => (match T f with
    | some g => gCall n g gs ρ q
    | none => .bad)
  | _ => .bad
section
variable {X : Cx} {C : Fx} {W : WX}
theorem de_callL {u : Bool} {k : Nat} {T : Tab} {x : Str} {e : Expr} {es : List Expr} {gs : DEnv → M (List D)} {p pos : Pos} (i n : Nat) (hT : ∀ f g, T f = some g → ∃ (fd : FuncData) (ps : List Str), ps.length = n ∧ FnG u X.prog X.w X.K X.mg X.base k f fd ps g ∧ PySem.W.keepIn X.K (.ref f) = true ∧ Binds X.K fd ps [])
    (gd : u = true → X.A.guards = some []) (hr : Room k X.A) (tk : Takes X W) (ho : C.own i = false) (ha : PA X (e :: es) (tA X.K C W gs)) (hN : X.N[i]? = some x := by rfl) (hv : Vis X.env.scope x := by first | exact Or.inl rfl | exact Or.inr (Or.inl rfl) | exact Or.inr (Or.inr rfl))
    (hd : (x == ("__debug__" : Str)) = false := by decide) (hcd : (x == ("__classdict__" : Str)) = false := by decide)
    (he : starEach (e :: es) X.env = (false, eval e X.env) :: starEach es X.env := by rfl) (hpl : (backTo pos (starEach es X.env)).any (·.1) = false := by rfl) : PE X (.Call (.Name x p) (e :: es) [] pos) (tE X.K C W (gCallL i T n gs)) := by
  refine ⟨fun pins s σ H Q I h => ?_⟩
  obtain ⟨ρ, q, F, st, h⟩ := h
  unfold gCallL at h
  split at h
  · rename_i f er
    split at h
    · rename_i g eg
      obtain ⟨fd, ps, hn, G, hk, hb⟩ := hT f g eg
      obtain ⟨v, h1, r⟩ := st.get er ho
      cases r
      refine wpAny_Call_Name_kw (thn ((pe_var (pos := p) hN hv hd hcd).run pins s σ H (fun v H1 => v = .ref f ∧ H1 = H) I ⟨.ref f, h1, rfl, rfl⟩) fun u s1 ⟨v, H1, I1, r1, ev, eH⟩ => ?_)
      subst ev eH
      cases r1
      have ht : tA X.K C W gs σ H1 fun vs H2 => ∃ ds q1 F1, ds.length = ps.length ∧ Wf C.S q1 F1 H2 ∧ RepL X.K C.S F1 ds vs ∧ Post X.K C.S (fun cls d H' => W cls d σ H') F1 H2 (RE X.K C.S) (g ds q1) Q := by
        refine ⟨ρ, q, F, st, Post.seq h fun ds vs q1 F1 H1 e1 w1 r1 h1 => ?_⟩
        split at h1
        · rename_i hl
          exact ⟨ds, q1, F1, by omega, w1, r1, h1⟩
        · exact h1.elim
      refine PySem.W.callWith_K (h₀ := X.base) I.ok.mod.kin hk (thn (ha.run pos pins s1 σ _ _ I1 ht) fun us s2 ⟨vs, H2, I2, r, ds, q1, F1, hl, w1, r1, h1⟩ => ⟨I2.kIn, ?_⟩) he hpl
      have hus : (us ++ ([] : List Value)).length = ps.length := by
        rw [List.append_nil, ← r.length, r1.length]
        exact hl
      have hb' := hb s2 us I2.kIn hus
      rw [List.append_nil] at hb'
      refine wpAny_call (codeAny_mono (G.run X.A X.stack s2 H2 ⟨us, []⟩ us vs Q _ C.S F1 ds q1 gd hr I2.env0 hb' r hl w1 r1 h1) fun r s' hq => ?_)
      cases r with
      | error e => exact cx_pass tk σ I2 hq
      | ok fl =>
        cases fl with
        | ret u => exact I2.after hq
        | next => exact False.elim hq
        | brk => exact False.elim hq
        | cont => exact False.elim hq
    · exact h.elim
  · exact h.elim
end
end Dl
namespace Dl
open PySem PySem.Spec PyProof.Rows L2

/-! ### and, or, not as values -/
def gAndV (a b : DEnv → M D) : DEnv → M D := fun ρ => a ρ >>= fun x => lift (truD x) >>= fun k => if k = true then b ρ else lift (some x)
def gOrV (a b : DEnv → M D) : DEnv → M D := fun ρ => a ρ >>= fun x => lift (truD x) >>= fun k => if k = true then lift (some x) else b ρ
def gNotV (a : DEnv → M D) : DEnv → M D := g1 (fun x => (truD x).map fun k => D.bl (!k)) a
section
variable {X : Cx} {C : Fx} {W : WX} {a b : Expr} {rest : List Expr} {pos : Pos} {ga gb : DEnv → M D}
theorem de_one {op : PySem.BoolOp} (ha : PE X a (tE X.K C W ga)) : PE X (.BoolOp op [a] pos) (tE X.K C W ga) := pe_one ha
theorem de_and (ha : PE X a (tE X.K C W ga)) (hb : PE X (.BoolOp .And (b :: rest) pos) (tE X.K C W gb)) : PE X (.BoolOp .And (a :: b :: rest) pos) (tE X.K C W (gAndV ga gb)) := pe_imp (pe_andT ha hb) fun σ H Q h => by
  obtain ⟨ρ, q, F, s, h⟩ := h
  refine ⟨ρ, q, F, s, Post.seq h fun d x q1 F1 H1 e1 w1 r1 h1 => ?_⟩
  cases hk : truD d with
  | none => rw [hk] at h1; exact h1.elim
  | some k =>
    rw [hk] at h1
    refine ⟨k, tru_of w1 (.rep r1) hk, ?_⟩
    cases k with
    | true => exact ⟨ρ, q1, F1, s.step e1 w1, h1⟩
    | false => exact h1 x F1 H1 .refl w1 r1
theorem de_or (ha : PE X a (tE X.K C W ga)) (hb : PE X (.BoolOp .Or (b :: rest) pos) (tE X.K C W gb)) : PE X (.BoolOp .Or (a :: b :: rest) pos) (tE X.K C W (gOrV ga gb)) := pe_imp (pe_orT ha hb) fun σ H Q h => by
  obtain ⟨ρ, q, F, s, h⟩ := h
  refine ⟨ρ, q, F, s, Post.seq h fun d x q1 F1 H1 e1 w1 r1 h1 => ?_⟩
  cases hk : truD d with
  | none => rw [hk] at h1; exact h1.elim
  | some k =>
    rw [hk] at h1
    refine ⟨k, tru_of w1 (.rep r1) hk, ?_⟩
    cases k with
    | true => exact h1 x F1 H1 .refl w1 r1
    | false => exact ⟨ρ, q1, F1, s.step e1 w1, h1⟩
theorem de_not (ha : PE X a (tEb X.K C W ga)) : PE X (.UnaryOp .Not a pos) (tE X.K C W (gNotV ga)) := pe_imp (pe_notT ha) fun σ H Q h => by
  obtain ⟨ρ, q, F, s, h⟩ := h
  refine ⟨ρ, q, F, s, Post.seq h fun d x q1 F1 H1 e1 w1 r1 h1 => ?_⟩
  have h2 := h1.lift
  dsimp only at h2
  cases hk : truD d with
  | none => rw [hk] at h2; exact h2.elim
  | some k =>
    rw [hk] at h2
    exact ⟨k, tru_of w1 r1 hk, h2 _ F1 H1 .refl w1 (.bl _)⟩
end
end Dl
namespace Dl
open PySem PySem.Spec PyProof.Rows L2

/-! ### a global that holds a built-in function -/
section
variable {X : Cx} {C : Fx} {W : WX}
theorem de_callBfun {x : Str} {id : String} {f : List D → Option D} {gs : DEnv → M (List D)} {e : Expr} {es : List Expr} {p pos : Pos} (hc : CallR X (.builtin id) (rDN X.K C.S f)) (hm : X.mg x = some (.builtin id)) (ha : PA X (e :: es) (tAb X.K C W gs)) (hg : Gl X x := by rfl)
    (hdb : (x == ("__debug__" : Str)) = false := by decide) (he : starEach (e :: es) X.env = (false, eval e X.env) :: starEach es X.env := by rfl) (hpl : (backTo pos (starEach es X.env)).any (·.1) = false := by rfl) :
    PE X (.Call (.Name x p) (e :: es) [] pos) (tE X.K C W (g1 f gs)) := pe_imp (pe_callBfun hc hg hm ha hdb he hpl) fun _ _ _ => t_args

/-! ### a list or a tuple, walked -/
def iSeq (K : PySem.W.Frag) (tl : TE) : TI := fun σ H R => tl σ H fun x H1 => ∃ a, x = .ref a ∧ (((∃ xs, SqL K H1 a xs) ∧ R (Itl K a) H1) ∨ ((∃ xs, SqT K H1 a xs) ∧ R (Itt K a) H1))
theorem pi_seq {tg l : Expr} {tl : TE} (hl : PE X l tl) : PI X tg l (iSeq X.K tl) := ⟨fun pins s σ H R I h => thn (hl.run pins s σ H _ I h) fun v s1 ⟨x, H1, I1, r1, a, e, q1⟩ => by
  subst e
  cases r1
  have fp : ∀ b ∈ [s1.heap.objs.size], FpOk X pins H1 b := fun b hb => by
    rw [show b = s1.heap.objs.size by simpa using hb]
    exact I1.fpOk (Nat.le_refl _) (I1.hok.fresh (Nat.le_refl _))
  rcases q1 with ⟨⟨xs, hq⟩, q⟩ | ⟨⟨xs, hq⟩, q⟩
  · obtain ⟨its, rv, p, hz⟩ := I1.list hq
    exact wpAny_pyIter_list p.isList ⟨s1.heap.objs.size, [s1.heap.objs.size], _, _, H1, rfl, I1.kept (t' := s1.toks) fun b o e => Heap.get?_push_of_some _ e, turn_list a _, ⟨_, Heap.get?_push_size _ rfl, rfl, rfl⟩, fp, q⟩
  · obtain ⟨its, rv, p, hz⟩ := I1.tuple hq
    exact wpAny_pyIter_tuple (show s1.heap.IsTuple a its.toArray from p) ⟨s1.heap.objs.size, [s1.heap.objs.size], _, _, H1, rfl, I1.kept (t' := s1.toks) fun b o e => Heap.get?_push_of_some _ e, turn_tuple a _, ⟨_, Heap.get?_push_size _ rfl, rfl, rfl⟩, fp, q⟩⟩
theorem di_seq {tg l : Expr} {g : DEnv → M D} (h : PE X l (tE X.K C W g)) : PI X tg l (tIf X.K C W (g1 seqD g)) := pi_imp (pi_seq h) fun σ H R h => by
  obtain ⟨ρ, q, F, s, h⟩ := h
  refine ⟨ρ, q, F, s, Post.seq h fun d x q1 F1 H1 e1 w1 r1 h1 => ?_⟩
  have h2 := h1.lift
  cases d with
  | lst xs =>
    cases r1 with
    | @lst a _ vs h3 h4 => exact ⟨a, rfl, .inl ⟨⟨vs, SqL.of (w1.sub _ _ h3)⟩, h2 _ F1 H1 .refl w1 ⟨_, wk_lst h4, fun F' H' e w => ⟨w.choose_spec.sub _ _ (e _ _ h3), e⟩⟩⟩⟩
  | tup xs =>
    cases r1 with
    | @tup a _ vs h3 h4 => exact ⟨a, rfl, .inr ⟨⟨vs, (h3.up w1.sub).sq⟩, h2 _ F1 H1 .refl w1 ⟨_, wk_tup h4, fun F' H' e w => ⟨((h3.up e).up w.choose_spec.sub).sq, e⟩⟩⟩⟩
  | _ => exact h2.elim
end
end Dl
namespace Dl
open PySem PySem.Spec PyProof.Rows L2

/-! ### a def of the module, by its name -/
structure Has (u : Bool) (P : Program) (w : World) (K : PySem.W.Frag) (mg : Str → Option Value) (base : Heap) (k : Nat) (x : Str) (n : Nat) (g : List D → M D) : Prop where
  ex : ∃ (fd : FuncData) (ps : List Str), ps.length = n ∧ FnG u P w K mg base k (He.ga K x) fd ps g ∧ Binds K fd ps []
  kp : PySem.W.keepIn K (.ref (He.ga K x)) = true
  mg : mg x = some (.ref (He.ga K x))
theorem Has.mono {u : Bool} {P : Program} {w : World} {K : PySem.W.Frag} {mg : Str → Option Value} {base : Heap} {j k : Nat} {x : Str} {n : Nat} {g : List D → M D} (h : Has u P w K mg base j x n g) (hjk : j ≤ k) : Has u P w K mg base k x n g := by
  obtain ⟨fd, ps, h1, h2, h3⟩ := h.ex
  exact ⟨⟨fd, ps, h1, h2.mono hjk, h3⟩, h.kp, h.mg⟩
/-- what the head tells of a def -/
structure DefK (K : PySem.W.Frag) (mg : Str → Option Value) (x : Str) (params : Arguments) (body : List Stmt) (scope : Scope) : Prop where
  fu : ∃ fd, FunD K x x params body scope [] [] (He.ga K x) fd
  mg : mg x = some (.ref (He.ga K x))
theorem Has.of {u : Bool} {P : Program} {w : World} {K : PySem.W.Frag} {mg : Str → Option Value} {base : Heap} {x : Str} {params : Arguments} {body : List Stmt} {scope : Scope} {N ps : List Str} {k : Nat} {g : MS} (own : Nat → Bool) (Dk : DefK K mg x params body scope) (Sc : FnScope N ps scope) (ho : ∀ i, i < ps.length → own i = false)
    (hb : ∀ (kV doc pm : Value) (an : Option Addr) (cdv ct : Value) (us : List Value), us.length = ps.length → bindArgs (PySem.W.fnOf x x params body scope .none kV doc pm an cdv ct) ⟨us, []⟩ = pure (ps.zip us))
    (hbody : ∀ (f : Addr) (cdv : Value) (A : Around) (outer : List PySem.Env) (s : Shared) (H : Hp) (E : XK) (S : Sx) (F : Hp), Bd u (cxOf (L2.CX P w) P w K mg base N x scope f cdv A outer s H E) k (fun cls d _ H' => E cls d H') →
      PSs (cxOf (L2.CX P w) P w K mg base N x scope f cdv A outer s H E) body (tS K ⟨S, F, H, own⟩ (fun cls d _ H' => E cls d H') g)) : Has u P w K mg base (k + 1) x ps.length (runD N.length g) := by
  obtain ⟨fd, Fu⟩ := Dk.fu
  refine ⟨⟨fd, ps, rfl, fnG_of own Fu Sc ho fun cdv A outer s H E S F bd => hbody _ cdv A outer s H E S F bd, ?_⟩, Fu.kp, Dk.mg⟩
  obtain ⟨oc, od, dV, kV, doc, pm, an, cdv, ct, osl, rfl, _, _, hD, _⟩ := Fu.ex
  rcases hD with ⟨_, rfl⟩ | ⟨e, _⟩
  · exact Binds.all (hb kV doc pm an cdv ct)
  · exact absurd rfl e
/-- nothing is promised -/
theorem Has.bad {u : Bool} {P : Program} {w : World} {K : PySem.W.Frag} {mg : Str → Option Value} {base : Heap} {x : Str} {params : Arguments} {body : List Stmt} {scope : Scope} {ps : List Str} {k : Nat} (Dk : DefK K mg x params body scope)
    (hb : ∀ (kV doc pm : Value) (an : Option Addr) (cdv ct : Value) (us : List Value), us.length = ps.length → bindArgs (PySem.W.fnOf x x params body scope .none kV doc pm an cdv ct) ⟨us, []⟩ = pure (ps.zip us)) : Has u P w K mg base k x ps.length (fun _ _ => .bad) := by
  obtain ⟨fd, Fu⟩ := Dk.fu
  refine ⟨⟨fd, ps, rfl, ⟨fun A outer s H args us vs Q E S F ds q _ _ _ _ _ _ _ _ post => post.elim⟩, ?_⟩, Fu.kp, Dk.mg⟩
  obtain ⟨oc, od, dV, kV, doc, pm, an, cdv, ct, osl, rfl, _, _, hD, _⟩ := Fu.ex
  rcases hD with ⟨_, rfl⟩ | ⟨e, _⟩
  · exact Binds.all (hb kV doc pm an cdv ct)
  · exact absurd rfl e
section
variable {X : Cx} {C : Fx} {W : WX}
theorem de_callH {u u' : Bool} {k k' n : Nat} {g : List D → M D} {gs : DEnv → M (List D)} {x : Str} {e : Expr} {es : List Expr} {p pos : Pos} (bd : Bd u X k' W) (G : Has u' X.prog X.w X.K X.mg X.base k x n g) (ha : PA X (e :: es) (tA X.K C W gs)) (hu : u' = true → u = true := by decide) (hk : k ≤ k' := by decide)
    (hg : Gl X x := by rfl) (hdb : (x == ("__debug__" : Str)) = false := by decide)
    (he : starEach (e :: es) X.env = (false, eval e X.env) :: starEach es X.env := by rfl) (hpl : (backTo pos (starEach es X.env)).any (·.1) = false := by rfl) : PE X (.Call (.Name x p) (e :: es) [] pos) (tE X.K C W (gCall n g gs)) := by
  obtain ⟨fd, ps, h1, h2, h3⟩ := G.ex
  subst h1
  exact de_call h2 (fun z => bd.gd (hu z)) (bd.hr.mono hk) bd.tk G.mg G.kp h3 ha hg hdb he hpl
theorem Bd.u1 {u : Bool} {k : Nat} (bd : Bd u X k W) : X.A.units + 1 < cLine := by have := bd.hr.un; omega
theorem Bd.u64 {u : Bool} {k : Nat} (bd : Bd u X k W) : X.A.units + 64 < cLine := by have := bd.hr.un; omega
theorem Bd.u66 {u : Bool} {k : Nat} (bd : Bd u X k W) : X.A.units + 66 < cLine := by have := bd.hr.un; omega
/-- a written tuple of whole numbers -/
theorem glob_tup {K : PySem.W.Frag} {S : Sx} {F : Hp} {a : Addr} {xs : List D} {vs : List V} (h : ∃ (o : Obj) (its : Array Value) (n : Nat), K.lookup a = some o ∧ o.cls = .type "tuple" ∧ o.data = .seq its n ∧ its.size ≤ sizeLine ∧ Vals vs its.toList) (r : RepL K S F xs vs) : Rep K S F (.tup xs) (.ref a) := .tup (.inr h) r
/-- in a block of the body -/
theorem Bd.blk {u : Bool} {k : Nat} (bd : Bd u X k W) {s : Shared} {H : Hp} {scope : Scope} {cenv : PySem.Env} {fp : List Addr} : Bd u (X.blk s H scope cenv fp) k W0 := ⟨bd.gd, bd.hr, takes0, fun _ _ z => (show False from z).elim, bd.hc⟩
end
end Dl
namespace Dl
open PySem PySem.Spec PyProof.Rows L2

/-! ### own exceptions by name: what the head tells -/
/-- B, the classes' base -/
structure BaseK (K : PySem.W.Frag) (mg : Str → Option Value) (B : Str) : Prop where
  mg : mg B = some (.ref (He.ga K B))
  rd : ClX.CRead K (He.ga K B) (.type "type")
  at_ : PySem.W.findCls K (.ref (He.ga K B)) (.type "type") "__init__" = some (.val (.builtin "ValueError.__init__"))
/-- x, a class with its own __init__(self, ns) -/
structure ExcK (K : PySem.W.Frag) (mg : Str → Option Value) (x qual : Str) (ns : List Str) (params : Arguments) (body : List Stmt) (scope : Scope) : Prop where
  mg : mg x = some (.ref (He.ga K x))
  oex : OexC K (He.ga K x)
  ini : PySem.W.findIn K (.ref (He.ga K x)) "__init__" = some (some (.ref (He.ma K (He.ga K x) "__init__")))
  tfn : PySem.W.typeIn K (.ref (He.ma K (He.ga K x) "__init__")) = some (.type "function")
  no : ∀ f ∈ ns, PySem.W.findIn K (.ref (He.ga K x)) f = some none
  fu : ∃ fd, FunD K "__init__" qual params body scope [] [] (He.ma K (He.ga K x) "__init__") fd
/-- what may be raised -/
structure RaisK (P : Program) (w : World) (K : PySem.W.Frag) (m : Str → Option Value) (base : Heap) (x : Str) (ns : List Str) : Prop where
  mg : m x = some (.ref (He.ga K x))
  oex : OexC K (He.ga K x)
  ini : PySem.W.findIn K (.ref (He.ga K x)) "__init__" = some (some (.ref (He.ma K (He.ga K x) "__init__")))
  tfn : PySem.W.typeIn K (.ref (He.ma K (He.ga K x) "__init__")) = some (.type "function")
  fn : ∃ (fd : FuncData) (ps : List Str), FnOk P w K m base (L2.CX P w) 1 (He.ma K (He.ga K x) "__init__") fd ps (spInit (He.ga K x) ns) ∧ Binds K fd ps []
section
variable {P : Program} {w : World} {K : PySem.W.Frag} {mg : Str → Option Value} {base : Heap} {x qual B : Str} {ns : List Str} {params : Arguments} {scope : Scope}
theorem RaisK.of {first : Stmt} {sts : List Stmt} (e : ExcK K mg x qual ns params (first :: sts) scope) (hz : ns.length ≤ 800) (Sc : FnScope (("self" : Str) :: ns) (("self" : Str) :: ns) scope)
    (hb : ∀ (kV doc pm : Value) (an : Option Addr) (cdv ct : Value) (us : List Value), us.length = (("self" : Str) :: ns).length → bindArgs (PySem.W.fnOf "__init__" qual params (first :: sts) scope .none kV doc pm an cdv ct) ⟨us, []⟩ = pure ((("self" : Str) :: ns).zip us))
    (h1 : ∀ (f : Addr) (cdv : Value) (A : Around) (outer : List PySem.Env) (s : Shared) (H : Hp) (E : XK) (a : Addr), PS (cxOf (L2.CX P w) P w K mg base (("self" : Str) :: ns) qual scope f cdv A outer s H E) first (fun D σ H => σ[0]? = some (some (.ref a)) ∧ H a = some (exo a (He.ga K x) none) ∧ D.nx σ H))
    (h2 : ∀ (f : Addr) (cdv : Value) (A : Around) (outer : List PySem.Env) (s : Shared) (H : Hp) (E : XK) (a : Addr), FldsOk (cxOf (L2.CX P w) P w K mg base (("self" : Str) :: ns) qual scope f cdv A outer s H E) a (He.ga K x) sts (parF ns)) : RaisK P w K mg base x ns := by
  obtain ⟨fd, Fu⟩ := e.fu
  refine ⟨e.mg, e.oex, e.ini, e.tfn, fd, _, init_of Fu Sc e.oex hz (fun cdv A outer s H E a => h1 _ cdv A outer s H E a) (fun cdv A outer s H E a => h2 _ cdv A outer s H E a), ?_⟩
  obtain ⟨oc, od, dV, kV, doc, pm, an, cdv, ct, osl, rfl, _, _, hD, _⟩ := Fu.ex
  rcases hD with ⟨_, rfl⟩ | ⟨e, _⟩
  · exact Binds.all (hb kV doc pm an cdv ct)
  · exact absurd rfl e
end
section
variable {X : Cx} {C : Fx} {W : WX}
/-- B.__init__(self, text) -/
theorem ps_base {B self : Str} {Ce : Addr} {a : Addr} {j : Nat} {m : Str} {p1 p2 p3 p4 pos pos' : Pos} (b : BaseK X.K X.mg B) (T : OexC X.K Ce) (hN : X.N[0]? = some self := by rfl) (hv : Vis X.env.scope self := by first | exact Or.inl rfl | exact Or.inr (Or.inl rfl) | exact Or.inr (Or.inr rfl)) (hd : (self == ("__debug__" : Str)) = false := by decide)
    (hcd : (self == ("__classdict__" : Str)) = false := by decide) (hg : Gl X B := by rfl) (hdb : (B == ("__debug__" : Str)) = false := by decide)
    (hc : eval (.Call (.Attribute (.Name B p1) "__init__" p2) [.Name self p3, .Constant (.str m) j p4] [] pos) X.env = (do
      let ov ← eval (.Name B p1) X.env
      standAt p2.atName
      let (f, first) ← holding [ov] (getMethod ov "__init__" (plainOf (.Name B p1) X.env))
      callWith pos f first (backTo pos (starEach [.Name self p3, .Constant (.str m) j p4] X.env)) (backToKw pos (keywordEach [] X.env))) := by rfl)
    (he : starEach [.Name self p3, .Constant (.str m) j p4] X.env = (false, eval (.Name self p3) X.env) :: starEach [.Constant (.str m) j p4] X.env := by rfl) (he2 : starEach [.Constant (.str m) j p4] X.env = (false, eval (.Constant (.str m) j p4) X.env) :: starEach [] X.env := by rfl)
    (hpl : (backTo pos (starEach [.Constant (.str m) j p4] X.env)).any (·.1) = false := by rfl) (hs : swapsWith (.Call (.Attribute (.Name B p1) "__init__" p2) [.Name self p3, .Constant (.str m) j p4] [] pos) none pos'.line X.env = pure false := by rfl) :
    PS X (.Expr (.Call (.Attribute (.Name B p1) "__init__" p2) [.Name self p3, .Constant (.str m) j p4] [] pos) pos') (fun D σ H => σ[0]? = some (some (.ref a)) ∧ H a = some (exo a Ce none) ∧ D.nx σ H) :=
  ps_imp (ps_expr (pe_ownInit b.mg b.rd b.at_ (pa_cons (pe_var hN hv hd hcd) (pa_cons pe_str pa_nil he2) he) hg hdb hc he hpl) hs) fun D σ H h => by
    obtain ⟨h1, h2, h3⟩ := h
    exact ⟨.ref a, h1, a, Ce, [.str m], rfl, by show 1 ≤ 1000; decide, T, h2, h3⟩
theorem ds_raiseK {x : Str} {ns : List Str} {e : Expr} {es : List Expr} {p pos pos' : Pos} {u : Bool} {k : Nat} {gs : DEnv → M (List D)} (bd : Bd u X k W) (r : RaisK X.prog X.w X.K X.mg X.base x ns) (hn : ns ≠ []) (hz : ns.length ≤ 1000) (hk : 2 ≤ k)
    (ha : PA X (e :: es) (tA X.K C W gs)) (hg : Gl X x := by rfl) (hdb : (x == ("__debug__" : Str)) = false := by decide) (he : starEach (e :: es) X.env = (false, eval e X.env) :: starEach es X.env := by rfl) (hpl : (backTo pos' (starEach es X.env)).any (·.1) = false := by rfl) :
    PS X (.Raise (some (.Call (.Name x p) (e :: es) [] pos')) none pos) (tS X.K C W (sRaise x ns gs)) := by
  obtain ⟨fd, ps, F1, hb⟩ := r.fn
  exact ds_raise bd.hc bd.tk r.oex r.ini r.tfn F1 (bd.hr.mono hk) hb r.mg hn hz ha hg hdb he hpl
end
end Dl
namespace Dl
open PySem PySem.Spec PyProof.Rows L2 LamX

/-! ### the end of a law row: the call from outside, nothing under repr -/
theorem cx_none {P : Program} {w : World} {outer : List PySem.Env} {H : Hp} {s s' : Shared} {e : Value} (h : L2.CX P w outer H s (fun _ _ _ => False) e s') : False := by
  obtain ⟨_, _, _, _, _, _, _, _, _, _, _, _, z⟩ := h
  exact z.elim
/-- what stands at the start: the script's list (locked) and the empty tables -/
def startH (K : PySem.W.Frag) (a : Addr) (lo : Obj) (us : List V) (Ts : List Addr) : Hp := fun b =>
  if b ∈ Ts then some (.tbl #[]) else if b = a ∧ K.lookup a = none then some (.frz lo (.lst us)) else none
section
variable {P : Program} {w : World} {K : PySem.W.Frag} {mg mb : Str → Option Value} {fa a : Addr} {cs : List (Addr × Addr)} {s1 : Shared} {vs : List Value} {ns : List Int}
theorem startH_tbl {lo : Obj} {us : List V} {Ts : List Addr} {b : Addr} (h : b ∈ Ts) : startH K a lo us Ts b = some (.tbl #[]) := if_pos h
theorem startH_some {lo : Obj} {us : List V} {Ts : List Addr} {b : Addr} {o : HO} (h : startH K a lo us Ts b = some o) : (b ∈ Ts ∧ o = .tbl #[]) ∨ (b ∉ Ts ∧ b = a ∧ K.lookup a = none ∧ o = .frz lo (.lst us)) := by
  unfold startH at h
  split at h
  · rename_i hb
    exact .inl ⟨hb, (Option.some.inj h).symm⟩
  · rename_i hb
    split at h
    · rename_i hc
      exact .inr ⟨hb, hc.1, hc.2, (Option.some.inj h).symm⟩
    · cases h
theorem law_end (kin : K.In s1.heap) (glob : s1.heap.Ns mainGlobals mg) (blt : s1.heap.Ns builtinsNs mb) (boot : ∀ x : Str, x ≠ "__name__" → mb x = bootBuiltins x) (lim : s1.heap.NoLimit) (gens : s1.gens = #[])
    (tabs : ∀ p ∈ cs, s1.heap.get? p.2 = some { cls := .none, data := .fields #[] }) (out : ∀ p ∈ cs, K.lookup p.2 = none) (code : ∀ p ∈ cs, PySem.W.CodeHd s1.heap p.1 p.2)
    (bmod : ∃ (bm : Addr) (ob : Obj), mg "__builtins__" = some (.ref bm) ∧ bm ≠ builtinsNs ∧ s1.heap.get? bm = some ob ∧ ob.cls = .type "module" ∧ ob.dict = some builtinsNs ∧ ob.data = .plain)
    (obj : s1.heap.get? a = some { cls := .type "list", data := .seq vs.toArray }) (hin : IntsAre vs ns) (len : ns.length ≤ sizeLine)
    (go : ∀ (base : Heap) (H : Hp), K.In base → base.Ns mainGlobals mg → (∀ p ∈ cs, TabB base mg p.1 p.2) → Env0 P w K mg base callerA [] s1 H → (∀ p ∈ cs, H p.2 = some (.tbl #[])) → SqL K H a (ns.map V.int) →
      codeAny (model P w) callerA (.call (.ref fa) ⟨[.ref a], []⟩) (CR (L2.CX P w) [] P w H s1 (fun v _ => v = .bl true) (fun _ _ _ => False)) s1) :
    codeAny (model P w) callerA (.call (.ref fa) ⟨[.ref a], []⟩) (fun r s' => r = .ok (.ret (.bool true)) ∧ OldK s1.heap s'.heap ∧ s'.os = s1.os ∧ AllBare s'.gens) s1 := by
  have rel := vals_ints hin
  have isT : ∀ {b : Addr}, b ∈ cs.map (·.2) → s1.heap.get? b = some { cls := .none, data := .fields #[] } := fun {b} hb => by
    obtain ⟨p, hp, rfl⟩ := List.mem_map.mp hb
    exact tabs p hp
  have inT : ∀ p ∈ cs, p.2 ∈ cs.map (·.2) := fun p hp => List.mem_map.mpr ⟨p, hp, rfl⟩
  have aT : a ∉ cs.map (·.2) := fun z => by
    have q := isT z
    rw [obj] at q
    have := congrArg Obj.data (Option.some.inj q)
    cases this
  generalize hH : startH K a { cls := .type "list", data := .seq vs.toArray } (ns.map V.int) (cs.map (·.2)) = H
  have cases_ : ∀ {b : Addr} {o : HO}, H b = some o → (b ∈ cs.map (·.2) ∧ o = .tbl #[]) ∨ (b ∉ cs.map (·.2) ∧ b = a ∧ K.lookup a = none ∧ o = .frz { cls := .type "list", data := .seq vs.toArray } (.lst (ns.map V.int))) := fun {b o} e => startH_some (by rw [hH]; exact e)
  have hTb : ∀ {b : Addr}, b ∈ cs.map (·.2) → H b = some (.tbl #[]) := fun {b} hb => by rw [← hH]; exact startH_tbl hb
  have hok : HOk P w H s1.heap := fun b o e => by
    rcases cases_ e with ⟨h1, rfl⟩ | ⟨_, rfl, _, rfl⟩
    · exact isT h1
    · exact ⟨obj, by rw [List.length_map]; exact len, vs, _, rel, obj⟩
  have seq : SqL K H a (ns.map V.int) := by
    cases hk : K.lookup a with
    | some o =>
      have e := kin a o hk
      rw [obj] at e
      cases e
      exact .inr ⟨_, vs.toArray, _, hk, rfl, rfl, rfl, by rw [List.size_toArray, hin.length]; exact len, by simpa using rel⟩
    | none =>
      refine .inl (.inr ⟨{ cls := .type "list", data := .seq vs.toArray }, ?_⟩)
      rw [← hH]
      unfold startH
      rw [if_neg aT, if_pos ⟨rfl, hk⟩]
  -- an object of another kind is not tracked
  have apart : ∀ {b : Addr} {o : Obj}, s1.heap.get? b = some o → (∀ xs n, o.data ≠ .seq xs n) → o.data ≠ .fields #[] → H b = none := fun {b o} e n1 n2 => by
    cases q : H b with
    | none => rfl
    | some u =>
      rcases cases_ q with ⟨h1, _⟩ | ⟨_, rfl, _, _⟩
      · rw [isT h1] at e
        cases e
        exact absurd rfl n2
      · rw [obj] at e
        cases e
        exact absurd rfl (n1 _ _)
  have low : ∀ {b : Addr} {o : Obj}, s1.heap.get? b = some o → H b = none → (hidT s1.heap H).get? b = some o := fun e n => hidT_get e n
  have dictOut : ∀ {b : Addr} {o : Obj} {es : Array DictEntry} {ep : Nat}, s1.heap.get? b = some o → o.data = .dict es ep → H b = none := fun {b o es ep} e d => apart e (fun xs n z => by rw [d] at z; cases z) fun z => by rw [d] at z; cases z
  have ns_ : ∀ {b : Addr} {m : Str → Option Value}, s1.heap.Ns b m → (hidT s1.heap H).Ns b m := fun {b m} h => by
    obtain ⟨o, es, ep, e, d, r⟩ := h
    exact ⟨o, es, ep, low e (dictOut e d), d, r⟩
  have kinB : K.In (hidT s1.heap H) := fun b o e => low (kin b o e) (by
    cases q : H b with
    | none => rfl
    | some u =>
      rcases cases_ q with ⟨h1, _⟩ | ⟨_, rfl, hk, _⟩
      · obtain ⟨p, hp, rfl⟩ := List.mem_map.mp h1
        rw [out p hp] at e
        cases e
      · rw [hk] at e
        cases e)
  have mod : L2.Mod K mg (hidT s1.heap H) := ⟨kinB, ns_ glob, ⟨mb, ns_ blt, boot⟩, by
    obtain ⟨mc, h1, h2⟩ := lim
    exact ⟨mc, ns_ h1, h2⟩⟩
  have tb : ∀ p ∈ cs, TabB (hidT s1.heap H) mg p.1 p.2 := fun p hp => by
    have hTp := tabs p hp
    have gP : mainGlobals ≠ p.2 := fun z => by
      obtain ⟨o, es, ep, e, d, _⟩ := glob
      rw [z, hTp] at e
      cases e
      cases d
    refine ⟨?_, ?_, gP⟩
    · obtain ⟨o, us, file, tf, flags, tg, inF, text, tt, e1, r1, r2, r3, rest⟩ := code p hp
      refine ⟨o, us, file, tf, flags, tg, inF, text, tt, low e1 (apart e1 (fun xs n z => by rw [r2] at z; cases z) fun z => ?_), r1, r2, r3, rest⟩
      rw [r2] at z
      cases z
      simp at r3
    · obtain ⟨bm, ob, b1, b2, b3, b4, b5, b6⟩ := bmod
      refine ⟨bm, ob, b1, b2, fun z => ?_, fun z => ?_, low b3 (apart b3 (fun xs n z => by rw [b6] at z; cases z) fun z => by rw [b6] at z; cases z), b4, b5, b6⟩
      · obtain ⟨o, es, ep, e, d, _⟩ := glob
        rw [z, e] at b3
        cases b3
        rw [d] at b6
        cases b6
      · rw [z, hTp] at b3
        cases b3
        cases b6
  have env : Env0 P w K mg (hidT s1.heap H) callerA [] s1 H := ⟨rfl, mod, fun b o e => of_hidT e, Nat.le_of_eq (hidT_size _ _), trivial, fun b hb => absurd (show b ∈ ([] : List Addr) from hb) (by simp), hok, .of_eq gens⟩
  refine codeAny_mono (go _ H kinB (ns_ glob) tb env (fun p hp => hTb (inT p hp)) seq) fun r s' h => ?_
  cases r with
  | error e => exact (cx_none h).elim
  | ok fl =>
    cases fl with
    | next => exact False.elim h
    | brk => exact False.elim h
    | cont => exact False.elim h
    | ret u =>
      obtain ⟨v, H', os, bare, un, hok', rv, q⟩ := h
      have q' : v = .bl true := q
      subst q'
      obtain rfl : u = Value.bool true := rv
      have stay : ∀ b o, b ∉ cs.map (·.2) → s1.heap.get? b = some o → s'.heap.get? b = some o := fun b o nb e => by
        cases q : H b with
        | none => exact un.keep b o e q (fun z => absurd (show b ∈ ([] : List Addr) from z) (by simp)) (by simp)
        | some u =>
          rcases cases_ q with ⟨h1, _⟩ | ⟨_, _, _, rfl⟩
          · exact absurd h1 nb
          · obtain ⟨e2, _⟩ := hok' b _ (un.frzs b _ _ q)
            obtain ⟨e1, _⟩ := hok b _ q
            rw [e] at e1
            cases e1
            exact e2
      have grow : ∀ p ∈ cs, ∃ more : Array Value, s'.heap.get? p.2 = some { cls := .none, data := .fields more } := fun p hp => by
        obtain ⟨more, z⟩ := un.tbls p.2 #[] (hTb (inT p hp))
        exact ⟨_, hok' p.2 _ z⟩
      refine ⟨rfl, ⟨fun b o e => ?_, fun b o e => ?_⟩, os, bare⟩
      · by_cases hb : b ∈ cs.map (·.2)
        · obtain ⟨p, hp, rfl⟩ := List.mem_map.mp hb
          obtain ⟨more, hm⟩ := grow p hp
          rw [tabs p hp] at e
          cases e
          exact .inr (.inl ⟨((code p hp).tab (tabs p hp)).isCodeTable, rfl, #[], more, rfl, by rw [Array.empty_append]; exact hm⟩)
        · exact .inl (stay b o hb e)
      · by_cases hb : b ∈ cs.map (·.2)
        · obtain ⟨p, hp, rfl⟩ := List.mem_map.mp hb
          obtain ⟨more, hm⟩ := grow p hp
          exact ⟨_, hm⟩
        · exact ⟨o, stay b o hb e⟩
end
end Dl
namespace Dl
open PySem PySem.Spec PyProof.Rows L2

/-! ### the pen is made of the script -/
def foldI (f c : Int) : Int := (f * 139 + c).fmod 999999491
def penOf (ns : List Int) : PenS := ⟨ns, 0, 0, 0, ns.foldl foldI 0⟩
theorem foldI_bd (ns : List Int) : 0 ≤ ns.foldl foldI 0 ∧ ns.foldl foldI 0 < 999999491 := by
  have key : ∀ (ns : List Int) (f : Int), 0 ≤ f → f < 999999491 → 0 ≤ ns.foldl foldI f ∧ ns.foldl foldI f < 999999491 := by
    intro ns
    induction ns with
    | nil => intro f h1 h2; exact ⟨h1, h2⟩
    | cons n r ih =>
      intro f _ _
      exact ih _ (Int.fmod_nonneg_of_pos _ (by decide)) (Int.fmod_lt_of_pos _ (by decide))
  exact key ns 0 (by decide) (by decide)
/-- where a pen stands behind H -/
structure PenAt (H H' : Hp) (p c : Addr) (ns : List Int) : Prop where
  np : H p = none
  nc : H c = none
  ne : c ≠ p
  hp : H' p = some (.dK (penK c (penOf ns)))
  hc : H' c = some (.lst (ns.map V.int))
  hk : ∀ b, b ≠ p → b ≠ c → H' b = H b
def spPen (K : PySem.W.Frag) : Sp := fun vs H Q _ => ∃ a ns, vs = [.ref a] ∧ SqL K H a (ns.map V.int) ∧ ∀ p c H', PenAt H H' p c ns → Q (.ref p) H'
theorem SqL.upd {K : PySem.W.Frag} {H : Hp} {a p : Addr} {xs : List V} {o : HO} (h : SqL K H a xs) (hp : H p = none) : SqL K (L2.upd H p o) a xs := by
  rcases h with (h | ⟨ob, h⟩) | h
  · exact .inl (.inl (by rw [upd_ne (ne_of_none h hp)]; exact h))
  · exact .inl (.inr ⟨ob, by rw [upd_ne (ne_of_none h hp)]; exact h⟩)
  · exact .inr h
theorem PenAt.wf {S0 : List (Addr × Str)} {H H' : Hp} {p c : Addr} {ns : List Int} (h : PenAt H H' p c ns) (t : LamX.Tabs S0 H) : Wf ⟨p, c, S0⟩ (penOf ns) (fun _ => none) H' :=
  ⟨fun a o (e : none = some o) => (by cases e), rfl, h.hp, h.hc, t.ext fun b o e => by
    rw [h.hk b (ne_of_none e h.np) (ne_of_none e h.nc)]
    exact e, fun a ps (e : none = some _) => (by cases e)⟩
/-- what the def that makes the pen promises -/
structure PenFn (P : Program) (w : World) (K : PySem.W.Frag) (mg : Str → Option Value) (base : Heap) : Prop where
  ex : ∃ (fd : FuncData) (ps : List Str), ps.length = 1 ∧ FnOk P w K mg base (L2.CX P w) 1 (He.ga K "_law_pen") fd ps (spPen K) ∧ Binds K fd ps []
  kp : PySem.W.keepIn K (.ref (He.ga K "_law_pen")) = true
  mg : mg "_law_pen" = some (.ref (He.ga K "_law_pen"))
section
variable {X : Cx}
/-- pen = _law_pen(script) -/
theorem ps_pen {i j : Nat} {x y : Str} {p1 p2 p3 pos pos' : Pos} (hN : X.N.Nodup) (F : PenFn X.prog X.w X.K X.mg X.base) (hr : Room 1 X.A) (hi : X.N[i]? = some x := by rfl) (hj : X.N[j]? = some y := by rfl) (hv : Vis X.env.scope x := by first | exact Or.inl rfl | exact Or.inr (Or.inl rfl) | exact Or.inr (Or.inr rfl)) (hd : (x == ("__debug__" : Str)) = false := by decide)
    (hcd : (x == ("__classdict__" : Str)) = false := by decide) (hg : Gl X "_law_pen" := by rfl) (hx : Loc X.env.scope y := by first | exact .inl rfl | exact .inr rfl) (hs : swapsWith (.Call (.Name "_law_pen" p1) [.Name x p2] [] p3) (some (.Name y pos')) pos.line X.env = pure false := by rfl)
    (hf : X.fn y = true ∨ X.env.scope.names.lookup y = some .local := by first | exact .inl rfl | exact .inr rfl | assumption) (he : starEach [.Name x p2] X.env = (false, eval (.Name x p2) X.env) :: starEach [] X.env := by rfl) (hpl : (backTo p3 (starEach [] X.env)).any (·.1) = false := by rfl) :
    PS X (.Assign [.Name y pos'] (.Call (.Name "_law_pen" p1) [.Name x p2] [] p3) pos) (fun D σ H => ∃ a ns, σ[i]? = some (some (.ref a)) ∧ SqL X.K H a (ns.map V.int) ∧ ∀ p c H', PenAt H H' p c ns → D.nx (σ.set j (some (.ref p))) H') := by
  obtain ⟨fd, ps, hl, G, hb⟩ := F.ex
  have px : Passes (L2.CX X.prog X.w) X (fun _ _ _ => False) := fun pins σ H s er s' I c => cx_pass (W := fun _ _ _ _ => False) takes0 σ I c
  refine ps_imp (ps_set hN hj hx (pe_call (dvs := []) (E := fun _ _ _ => False) G hr hg F.mg F.kp hb .nil px (pa_cons (pe_var hi hv hd hcd) pa_nil he)) hs hf) fun D σ H h => ?_
  obtain ⟨a, ns, h1, h2, h3⟩ := h
  exact ⟨.ref a, h1, a, ns, rfl, h2, h3⟩
end
end Dl
namespace Dl
open PySem PySem.Spec PyProof.Rows L2

/-! ### what the head may be asked of exceptions and constants -/
def shapeB (C : Addr) (cd : ClassData) (sl : Array (Option Value)) : Bool := cd.hasDict && (!cd.hasDel && (match cd.mro with
  | .ref C' :: bm => decide (C' = C) && PySem.HandSPX.refsVE bm
  | _ => false) && (match sl.toList with
  | [_, _, _, _, some (.builtin n), _] => decide (n = "ValueError.__new__")
  | _ => false))
def clsB (K : PySem.W.Frag) (C : Addr) : Bool := match K.lookup C with
  | some ⟨.type t, _, .cls cd, sl⟩ => decide (t = "type") && shapeB C cd sl
  | _ => false
theorem clsB_ok {K : PySem.W.Frag} {C : Addr} (h : clsB K C = true) : ∃ nm q N bs bm sn sub ab col dd k0 k1 k2 k3 k5, K.lookup C = some (excClassObj nm q C N bs bm true sn sub ab col dd k0 k1 k2 k3 k5 "ValueError.__new__") ∧ PySem.HandSPX.refsVE bm = true := by
  unfold clsB at h
  split at h
  · rename_i t dd cd sl hl
    obtain ⟨h1, h2⟩ := He.ba h
    have et := of_decide_eq_true h1
    subst et
    unfold shapeB at h2
    obtain ⟨h3, h4⟩ := He.ba h2
    obtain ⟨h5, h6⟩ := He.ba h4
    obtain ⟨h7, h8⟩ := He.ba h5
    obtain ⟨nm, bs, mro, ns, qn, hd, sn, sub, ab, col, del⟩ := cd
    dsimp only at h3 h7 h8
    cases h3
    have hdel : del = false := by simpa using h7
    subst hdel
    split at h8
    · rename_i C' bm
      obtain ⟨h9, h10⟩ := He.ba h8
      have ec := of_decide_eq_true h9
      subst ec
      split at h6
      · rename_i k0 k1 k2 k3 n k5 hs
        have en := of_decide_eq_true h6
        subst en
        have hsl : sl = #[k0, k1, k2, k3, some (.builtin "ValueError.__new__"), k5] := by
          obtain ⟨l⟩ := sl
          have hs' : l = _ := hs
          rw [hs']
        subst hsl
        exact ⟨_, _, _, _, _, _, _, _, _, _, _, _, _, _, _, hl, h10⟩
      · cases h6
    · cases h8
  · cases h
def oexB (K : PySem.W.Frag) (C : Addr) : Bool := clsB K C && (decide (PySem.W.findIn K (.ref C) "__setattr__" = some (some (.builtin "object.__setattr__"))) && (decide (PySem.W.subIn K (.ref C) (.type "BaseException") = some true) && (decide (PySem.W.typeIn K (.ref C) = some (.type "type")) && PySem.W.keepIn K (.ref C))))
theorem oexB_ok {K : PySem.W.Frag} {C : Addr} (h : oexB K C = true) : OexC K C := by
  obtain ⟨h1, h⟩ := He.ba h
  obtain ⟨h2, h⟩ := He.ba h
  obtain ⟨h3, h⟩ := He.ba h
  obtain ⟨h4, h5⟩ := He.ba h
  exact ⟨clsB_ok h1, of_decide_eq_true h2, of_decide_eq_true h3, of_decide_eq_true h4, h5⟩
def baseB (K : PySem.W.Frag) (C : Addr) : Bool := PySem.W.readsIn K C (.type "type") && (decide (PySem.W.specialIn K (.ref C) "__getattribute__" = some (some (.builtin "type.__getattribute__"))) && (match PySem.W.findCls K (.ref C) (.type "type") "__init__" with
  | some (.val (.builtin n)) => decide (n = "ValueError.__init__")
  | _ => false))
theorem baseB_ok {K : PySem.W.Frag} {C : Addr} (h : baseB K C = true) : ClX.CRead K C (.type "type") ∧ PySem.W.findCls K (.ref C) (.type "type") "__init__" = some (.val (.builtin "ValueError.__init__")) := by
  obtain ⟨h1, h⟩ := He.ba h
  obtain ⟨h2, h3⟩ := He.ba h
  refine ⟨⟨h1, of_decide_eq_true h2⟩, ?_⟩
  split at h3
  · rename_i n e
    rw [e, of_decide_eq_true h3]
  · cases h3
def iniB (K : PySem.W.Frag) (C : Addr) : Bool := decide (PySem.W.findIn K (.ref C) "__init__" = some (some (.ref (He.ma K C "__init__")))) && decide (PySem.W.typeIn K (.ref (He.ma K C "__init__")) = some (.type "function"))
theorem iniB_ok {K : PySem.W.Frag} {C : Addr} (h : iniB K C = true) : PySem.W.findIn K (.ref C) "__init__" = some (some (.ref (He.ma K C "__init__"))) ∧ PySem.W.typeIn K (.ref (He.ma K C "__init__")) = some (.type "function") := by
  obtain ⟨h1, h2⟩ := He.ba h
  exact ⟨of_decide_eq_true h1, of_decide_eq_true h2⟩
/-- a written tuple of whole numbers -/
def intsB : List Int → List Value → Bool
  | [], [] => true
  | n :: ns, .int m _ :: us => decide (m = n) && intsB ns us
  | _, _ => false
theorem intsB_ok : ∀ {ns : List Int} {us : List Value}, intsB ns us = true → Vals (ns.map V.int) us
  | [], [], _ => .nil
  | n :: ns, u :: us, h => by
    cases u with
    | int m t =>
      obtain ⟨h1, h2⟩ := He.ba (show (decide (m = n) && intsB ns us) = true from h)
      rw [of_decide_eq_true h1]
      exact .cons ⟨t, rfl⟩ (intsB_ok h2)
    | _ => cases h
  | [], _ :: _, h => by cases h
  | _ :: _, [], h => by cases h
def tupB (K : PySem.W.Frag) (a : Addr) (ns : List Int) : Bool := match K.lookup a with
  | some ⟨.type t, _, .seq its _, _⟩ => decide (t = "tuple") && (decide (its.size ≤ 1000) && intsB ns its.toList)
  | _ => false
theorem tupB_ok {K : PySem.W.Frag} {a : Addr} {ns : List Int} (h : tupB K a ns = true) : ∃ (o : Obj) (its : Array Value) (n : Nat), K.lookup a = some o ∧ o.cls = .type "tuple" ∧ o.data = .seq its n ∧ its.size ≤ sizeLine ∧ Vals (ns.map V.int) its.toList := by
  unfold tupB at h
  split at h
  · rename_i t d its n sl hl
    obtain ⟨h1, h⟩ := He.ba h
    obtain ⟨h2, h3⟩ := He.ba h
    exact ⟨_, its, n, hl, congrArg Value.type (of_decide_eq_true h1), rfl, line6 (by have := of_decide_eq_true h2; omega), intsB_ok h3⟩
  · cases h
end Dl
namespace Dl
open PySem PySem.Spec PyProof.Rows L2

/-! ### the Hook, the class statics looked at too -/
def asY (g : Addr → Option Obj) (n : Nat) : List Addr := cStatics :: He.asD g n
def obsY (n : Nat) (fa : List He.Fa) (fn : List He.DefD) (tf : List He.Defn) (ex : PySem.W.Frag → Bool) (g : Addr → Option Obj) : He.AlD × Bool := (He.obsD fa fn (He.frT g (asY g n)), ex (He.frT g (asY g n)) && He.tabsB g tf (He.frT g (asY g n)))
structure SaysY (fa : List He.Fa) (fn : List He.DefD) (tf : List He.Defn) (ex : PySem.W.Frag → Bool) (h : Heap) (K : PySem.W.Frag) : Prop where
  d : He.SaysD fa fn K
  more : ex K = true
  hd : ∀ p ∈ tf, PySem.W.codeHdIn K (He.cT K p).1 (He.cT K p).2 = true
  out : ∀ p ∈ tf, K.lookup (He.cT K p).2 = none
  empty : ∀ p ∈ tf, h.get? (He.cT K p).2 = some { cls := .none, data := .fields #[] }
theorem saysY_of {n : Nat} {fa : List He.Fa} {fn : List He.DefD} {tf : List He.Defn} {ex : PySem.W.Frag → Bool} {h : Heap} (e : obsY n fa fn tf ex h.get? = (He.valD fn, true)) : SaysY fa fn tf ex h (He.frT h.get? (asY h.get? n)) := by
  have e1 := congrArg Prod.fst e
  obtain ⟨h1, h2⟩ := He.ba (show (ex (He.frT h.get? (asY h.get? n)) && He.tabsB h.get? tf (He.frT h.get? (asY h.get? n))) = true from congrArg Prod.snd e)
  have at_ : ∀ p ∈ tf, PySem.W.codeHdIn (He.frT h.get? (asY h.get? n)) (He.cT (He.frT h.get? (asY h.get? n)) p).1 (He.cT (He.frT h.get? (asY h.get? n)) p).2 = true ∧ ∃ o, h.get? (He.cT (He.frT h.get? (asY h.get? n)) p).2 = some o ∧ He.emptyTab o = true := fun p hp => by
    obtain ⟨h3, h4⟩ := He.ba (List.all_eq_true.mp h2 p hp)
    refine ⟨h3, ?_⟩
    cases q : h.get? (He.cT (He.frT h.get? (asY h.get? n)) p).2 with
    | some o =>
      rw [q] at h4
      exact ⟨o, rfl, h4⟩
    | none =>
      rw [q] at h4
      cases h4
  refine ⟨e1, h1, fun p hp => (at_ p hp).1, fun p hp => ?_, fun p hp => ?_⟩
  · obtain ⟨_, o, q, z⟩ := at_ p hp
    exact He.frT_none q z
  · obtain ⟨_, o, q, z⟩ := at_ p hp
    rw [q, He.emptyTab_eq z]
def hookY (n : Nat) (fa : List He.Fa) (fn : List He.DefD) (tf : List He.Defn) (ex : PySem.W.Frag → Bool) : PySem.W.Hook where
  α := He.AlD × Bool
  obs := fun s => obsY n fa fn tf ex s.heap.get?
  val := fun _ => (He.valD fn, true)
  says := fun _ h => ∃ K : PySem.W.Frag, K.In h ∧ SaysY fa fn tf ex h K
  of := fun _ _ e => ⟨_, He.frT_in, saysY_of e⟩
  keeps := fun _ _ _ ⟨K, hK, c⟩ k => ⟨K, PySem.W.Frag.In.keeps hK k, ⟨c.d, c.more, c.hd, c.out, fun p hp => k _ _ (c.empty p hp)⟩⟩
theorem obsY_eq {n : Nat} {fa : List He.Fa} {fn : List He.DefD} {tf : List He.Defn} {ex : PySem.W.Frag → Bool} {g : Addr → Option Obj} {s : Shared} (h : ∀ a, g a = s.heap.get? a) : obsY n fa fn tf ex g = (hookY n fa fn tf ex).obs s := by
  rw [show g = s.heap.get? from funext h]
  rfl
end Dl
namespace K63
open PySem PySem.Spec PyProof.Rows L2 Dl

abbrev P : Program := PySem.Challenge.pw_everyminor_k63_changes_of_sign
def top (i : Nat) : Stmt := P.main.body.getD i (.Pass ⟨0, 0, 0, 0⟩)
/-- the __init__ of the class at top i -/
def meth (i : Nat) : Stmt := match top i with
  | .ClassDef _ _ _ b _ _ _ _ _ _ _ => b.getD 0 (.Pass ⟨0, 0, 0, 0⟩)
  | s => s
def frees : List Str := ["abs", "all", "bool", "dict", "enumerate", "int", "isinstance", "len", "list", "max", "range", "repr", "sorted", "str", "tuple", "ValueError"]
def dfs : List (Nat × Str) := [⟨10, "is_whole"⟩, ⟨11, "in_tuples"⟩, ⟨13, "is_pair"⟩, ⟨14, "lowest"⟩, ⟨18, "is_loose"⟩, ⟨19, "told_ratio"⟩, ⟨20, "loose_row"⟩, ⟨21, "row_from"⟩, ⟨23, "sign_of"⟩, ⟨24, "sign_changes"⟩, ⟨26, "changes_by"⟩, ⟨27, "least_changes"⟩, ⟨28, "most_by"⟩, ⟨29, "next_best"⟩, ⟨30, "greatest_changes"⟩, ⟨31, "first_by"⟩, ⟨32, "first_sign"⟩, ⟨34, "_law_pen"⟩, ⟨35, "_law_draw"⟩, ⟨36, "_law_pick"⟩, ⟨37, "_law_gcd"⟩, ⟨38, "_law_q"⟩, ⟨39, "_law_times"⟩, ⟨40, "_law_handed"⟩, ⟨41, "_law_passed"⟩, ⟨42, "_law_ratio"⟩, ⟨43, "_law_fault"⟩, ⟨44, "_law_given_row"⟩, ⟨45, "_law_sign"⟩, ⟨46, "_law_signed"⟩, ⟨47, "_law_sign_turns"⟩, ⟨48, "_law_case"⟩, ⟨49, "law"⟩]
/-- class, tag, fields of _law_fault's clauses -/
def faults : List Cl := [⟨"BadLot", "lot", ["lot"]⟩, ⟨"BadNumber", "number", ["what", "number"]⟩, ⟨"BadRow", "row", ["row"]⟩, ⟨"BadTable", "table", ["table"]⟩, ⟨"TooMany", "many", ["what", "many", "limit"]⟩, ⟨"Unlike", "unlike", ["what"]⟩]
structure Ctx (K : PySem.W.Frag) (mg : Str → Option Value) : Prop where
  free : ∀ x ∈ frees, mg x = none
  dk : ∀ i x, (i, x) ∈ dfs → DefK K mg x (defArgs (top i)) (defBody (top i)) (defScope (top i))
  gcd : mg "gcd" = some (.builtin "math.gcd")
  most : ∃ t, mg "MOST" = some (.int 6 t)
  none_ : mg "NONE" = some (.ref (He.ga K "NONE")) ∧ ∃ (o : Obj) (its : Array Value) (n : Nat), K.lookup (He.ga K "NONE") = some o ∧ o.cls = .type "tuple" ∧ o.data = .seq its n ∧ its.size ≤ sizeLine ∧ Vals [.int 0, .int 1] its.toList
  base : BaseK K mg "MinorError"
  mgx : ∀ p ∈ faults, mg p.1 = some (.ref (He.ga K p.1))
  xf : ∀ p ∈ faults, XfC K (He.ga K p.1)
  nof : ∀ p ∈ faults, ∀ f ∈ p.2.2, PySem.W.findIn K (.ref (He.ga K p.1)) f = some none
  exm : ∀ p ∈ faults, Apart K faults p.1
  row : ExcK K mg "BadRow" "BadRow.__init__" ["row"] (defArgs (meth 5)) (defBody (meth 5)) (defScope (meth 5))
section
variable {X : Cx} {C : Fx} {W : WX}
theorem Ctx.glob_MOST (c : Ctx X.K X.mg) {pos : Pos} (hg : Gl X "MOST" := by rfl) : PE X (.Name "MOST" pos) (tE X.K C W (gC (.int 6))) := by
  obtain ⟨t, h⟩ := c.most
  exact de_glob (v := .int 6) h ⟨t, rfl⟩ (fun F => .int 6) hg
theorem Ctx.glob_NONE (c : Ctx X.K X.mg) {pos : Pos} (hg : Gl X "NONE" := by rfl) : PE X (.Name "NONE" pos) (tE X.K C W (gC (.tup [.int 0, .int 1]))) := by
  obtain ⟨h, h2⟩ := c.none_
  exact de_glob (v := .ref _) h rfl (fun F => glob_tup h2 (.cons (.int 0) (.cons (.int 1) .nil))) hg
end
section
variable {w : World} {K : PySem.W.Frag} {mg : Str → Option Value} {base : Heap}
theorem s_BadRow : FnScope ["self", "row"] ["self", "row"] (defScope (meth 5)) := ⟨by rfl, by rfl, by rfl, by decide, by rfl, by decide +kernel, by decide +kernel⟩
theorem Ctx.rBadRow (c : Ctx K mg) : RaisK P w K mg base "BadRow" ["row"] :=
  RaisK.of c.row (by decide) s_BadRow (fun _ _ _ _ _ _ us h => match us, h with | [x0, x1], _ => rfl)
    (fun f cdv A outer s H E a => ps_base c.base c.row.oex)
    (fun f cdv A outer s H E a => .cons (ps_fld 1 c.row.oex (c.row.no _ (by decide))) .nil)
end
section
variable {X : Cx} {C : Fx} {W : WX}
theorem Ctx.raise_BadRow {e : Expr} {es : List Expr} {p pos pos' : Pos} {u : Bool} {k : Nat} {gs : DEnv → M (List D)} (c : Ctx X.K X.mg) (bd : Bd u X k W) (ha : PA X (e :: es) (tA X.K C W gs)) (hP : X.prog = P := by rfl) (hk : 2 ≤ k := by decide)
    (hg : Gl X "BadRow" := by rfl) (he : starEach (e :: es) X.env = (false, eval e X.env) :: starEach es X.env := by rfl) (hpl : (backTo pos' (starEach es X.env)).any (·.1) = false := by rfl) :
    PS X (.Raise (some (.Call (.Name "BadRow" p) (e :: es) [] pos')) none pos) (tS X.K C W (sRaise "BadRow" ["row"] gs)) := ds_raiseK bd (by rw [hP]; exact c.rBadRow) (by decide) (by decide) hk ha hg (by decide) he hpl
end
end K63
namespace K63
open PySem PySem.Spec PyProof.Rows L2 Dl
section
variable {w : World} {K : PySem.W.Frag} {mg : Str → Option Value} {base : Heap}
def b_is_whole : MS := (sRet (gAndV (g1 isiD (mCons (gVar 0) (mCons (gC (.ty "int")) mNil))) (gNotV (g1 isiD (mCons (gVar 0) (mCons (gC (.ty "bool")) mNil))))))
def N_is_whole : List Str := ["value"]
def o_is_whole : Nat → Bool := fun _ => false
def g_is_whole : List D → M D := runD 1 b_is_whole
theorem s_is_whole : FnScope N_is_whole ["value"] (defScope (top 10)) := ⟨by rfl, by rfl, by rfl, by decide, by rfl, by decide +kernel, by decide +kernel⟩
theorem h_is_whole (c : Ctx K mg) : Has false P w K mg base 1 "is_whole" 1 g_is_whole :=
  Has.of (k := 0) (g := b_is_whole) (N := N_is_whole) (ps := ["value"]) o_is_whole (c.dk 10 "is_whole" (by decide)) s_is_whole (by decide)
    (fun _ _ _ _ _ _ us h => match us, h with | [x0], _ => rfl)
    fun f cdv A outer s H E S F bd => (dss_one (ds_ret (de_and (de_callB cd_isi (c.free "isinstance" (by decide)) rfl (dab_cons (db_var 0) (dab_cons (PE.db (de_ty (c.free "int" (by decide)) rfl)) dab_nil))) (de_one (de_not (PE.db (de_callB cd_isi (c.free "isinstance" (by decide)) rfl (dab_cons (db_var 0) (dab_cons (PE.db (de_ty (c.free "bool" (by decide)) rfl)) dab_nil)))))))))
def b_in_tuples (r : List D → M D) : MS := (sSeq (sIf (gNot (g1 truD (g1 isiD (mCons (gVar 0) (mCons (mTup (mCons (gC (.ty "tuple")) (mCons (gC (.ty "list")) mNil))) mNil))))) (sRet (gVar 0)) sNext) (sRet (g1 tupleD (mCons (gLc [1] (g1 seqD (gVar 0)) (.nm 1) gYes (gCall 1 r (mCons (gVar 1) mNil))) mNil))))
def N_in_tuples : List Str := ["value", "item"]
def o_in_tuples : Nat → Bool := fun _ => false
def r_in_tuples : Nat → List D → M D
  | 0 => fun _ _ => .bad
  | j + 1 => runD 2 (b_in_tuples (r_in_tuples j))
def g_in_tuples : List D → M D := r_in_tuples 8
theorem s_in_tuples : FnScope N_in_tuples ["value"] (defScope (top 11)) := ⟨by rfl, by rfl, by rfl, by decide, by rfl, by decide +kernel, by decide +kernel⟩
theorem hr_in_tuples (c : Ctx K mg) : ∀ j, Has false P w K mg base j "in_tuples" 1 (r_in_tuples j)
  | 0 => Has.bad (ps := ["value"]) (c.dk 11 "in_tuples" (by decide)) (fun _ _ _ _ _ _ us h => match us, h with | [x0], _ => rfl)
  | j + 1 => Has.of (k := j) (g := b_in_tuples (r_in_tuples j)) (N := N_in_tuples) (ps := ["value"]) o_in_tuples (c.dk 11 "in_tuples" (by decide)) s_in_tuples (by decide)
    (fun _ _ _ _ _ _ us h => match us, h with | [x0], _ => rfl)
    fun f cdv A outer s H E S F bd => (dss_cons (ds_if (dt_not (dt_tru (PE.db (de_callB cd_isi (c.free "isinstance" (by decide)) rfl (dab_cons (db_var 0) (dab_cons (PE.db (de_tup (da_cons (de_ty (c.free "tuple" (by decide)) rfl) (da_cons (de_ty (c.free "list" (by decide)) rfl) da_nil)))) dab_nil)))))) (dss_one (ds_ret (de_var 0 (by rfl)))) dss_nil) (dss_one (ds_ret (de_callTy cd_tuple (c.free "tuple" (by decide)) rfl (dab_cons (PE.db (PE.de (dn_lc [("item", 1)] bd.hc s_in_tuples.nd (PI.e (di_seq (de_var 0 (by rfl)))) (blkOk_by (by rfl)) (show ∀ i ∈ ([1] : List Nat), o_in_tuples i = false by decide) (by decide) (fun s H C' cl fp => (pgt_nm (i := 1) s_in_tuples.nd)) (fun s H C' cl fp => dts_nil) (fun s H C' cl fp => (de_callH bd.blk (hr_in_tuples c j) (da_cons (de_var 1 (by rfl)) da_nil) (hk := Nat.le_refl _)))))) dab_nil)))))
theorem h_in_tuples (c : Ctx K mg) : Has false P w K mg base 8 "in_tuples" 1 g_in_tuples := hr_in_tuples c 8
def b_is_pair : MS := (sSeq (sIf (gOr (gNot (g1 truD (g1 isiD (mCons (gVar 0) (mCons (mTup (mCons (gC (.ty "tuple")) (mCons (gC (.ty "list")) mNil))) mNil))))) (g1 boolD (g2 neD (g1 lenD (mCons (gVar 0) mNil)) (gC (.int 2))))) (sRet (gC (.bl false))) sNext) (sRet (gAndV (gCall 1 g_is_whole (mCons (g2 ixD (gVar 0) (gC (.int 0))) mNil)) (gAndV (gCall 1 g_is_whole (mCons (g2 ixD (gVar 0) (gC (.int 1))) mNil)) (g2 gtD (g2 ixD (gVar 0) (gC (.int 1))) (gC (.int 0)))))))
def N_is_pair : List Str := ["value"]
def o_is_pair : Nat → Bool := fun _ => false
def g_is_pair : List D → M D := runD 1 b_is_pair
theorem s_is_pair : FnScope N_is_pair ["value"] (defScope (top 13)) := ⟨by rfl, by rfl, by rfl, by decide, by rfl, by decide +kernel, by decide +kernel⟩
theorem h_is_pair (c : Ctx K mg) : Has false P w K mg base 2 "is_pair" 1 g_is_pair :=
  Has.of (k := 1) (g := b_is_pair) (N := N_is_pair) (ps := ["value"]) o_is_pair (c.dk 13 "is_pair" (by decide)) s_is_pair (by decide)
    (fun _ _ _ _ _ _ us h => match us, h with | [x0], _ => rfl)
    fun f cdv A outer s H E S F bd => (dss_cons (ds_if (PW.pt (dw_or (dt_not (dt_tru (PE.db (de_callB cd_isi (c.free "isinstance" (by decide)) rfl (dab_cons (db_var 0) (dab_cons (PE.db (de_tup (da_cons (de_ty (c.free "tuple" (by decide)) rfl) (da_cons (de_ty (c.free "list" (by decide)) rfl) da_nil)))) dab_nil)))))) (dw_or1 (dt_cmp (od_ne bd.u64) (PE.db (de_callB cd_len (c.free "len" (by decide)) rfl (dab_cons (db_var 0) dab_nil))) (PE.db de_int) (nomark _))))) (dss_one (ds_ret de_bl)) dss_nil) (dss_one (ds_ret (de_and (de_callH bd (h_is_whole c) (da_cons (de_ix (db_var 0) (PE.db de_int)) da_nil)) (de_and (de_callH bd (h_is_whole c) (da_cons (de_ix (db_var 0) (PE.db de_int)) da_nil)) (de_one (de_cmp od_gt (PE.db (de_ix (db_var 0) (PE.db de_int))) (PE.db de_int) (nomark _))))))))
def b_lowest : MS := (sSeq (sSet 2 (gIf (g1 boolD (g2 gtD (gVar 1) (gC (.int 0)))) (g1 gcdD (mCons (gVar 0) (mCons (gVar 1) mNil))) (g1 negD (g1 gcdD (mCons (gVar 0) (mCons (gVar 1) mNil)))))) (sRet (mTup (mCons (g2 fdivD (gVar 0) (gVar 2)) (mCons (g2 fdivD (gVar 1) (gVar 2)) mNil)))))
def N_lowest : List Str := ["top", "bottom", "by"]
def o_lowest : Nat → Bool := fun _ => false
def g_lowest : List D → M D := runD 3 b_lowest
theorem s_lowest : FnScope N_lowest ["top", "bottom"] (defScope (top 14)) := ⟨by rfl, by rfl, by rfl, by decide, by rfl, by decide +kernel, by decide +kernel⟩
theorem h_lowest (c : Ctx K mg) : Has false P w K mg base 1 "lowest" 2 g_lowest :=
  Has.of (k := 0) (g := b_lowest) (N := N_lowest) (ps := ["top", "bottom"]) o_lowest (c.dk 14 "lowest" (by decide)) s_lowest (by decide)
    (fun _ _ _ _ _ _ us h => match us, h with | [x0, x1], _ => rfl)
    fun f cdv A outer s H E S F bd => (dss_cons (ds_set 2 (by rfl) s_lowest.nd (de_if (dt_cmp od_gt (db_var 1) (PE.db de_int) (nomark _)) (de_callBfun cd_gcd c.gcd (dab_cons (db_var 0) (dab_cons (db_var 1) dab_nil))) (de_un ud_neg (PE.db (de_callBfun cd_gcd c.gcd (dab_cons (db_var 0) (dab_cons (db_var 1) dab_nil))))))) (dss_one (ds_ret (de_tup (da_cons (de_op2 od_fdiv (db_var 0) (db_var 2)) (da_cons (de_op2 od_fdiv (db_var 1) (db_var 2)) da_nil))))))
def b_is_loose : MS := (sRet (gOrV (gCall 1 g_is_whole (mCons (gVar 0) mNil)) (gAndV (g1 isiD (mCons (gVar 0) (mCons (gC (.ty "tuple")) mNil))) (gCall 1 g_is_pair (mCons (gVar 0) mNil)))))
def N_is_loose : List Str := ["value"]
def o_is_loose : Nat → Bool := fun _ => false
def g_is_loose : List D → M D := runD 1 b_is_loose
theorem s_is_loose : FnScope N_is_loose ["value"] (defScope (top 18)) := ⟨by rfl, by rfl, by rfl, by decide, by rfl, by decide +kernel, by decide +kernel⟩
theorem h_is_loose (c : Ctx K mg) : Has false P w K mg base 3 "is_loose" 1 g_is_loose :=
  Has.of (k := 2) (g := b_is_loose) (N := N_is_loose) (ps := ["value"]) o_is_loose (c.dk 18 "is_loose" (by decide)) s_is_loose (by decide)
    (fun _ _ _ _ _ _ us h => match us, h with | [x0], _ => rfl)
    fun f cdv A outer s H E S F bd => (dss_one (ds_ret (de_or (de_callH bd (h_is_whole c) (da_cons (de_var 0 (by rfl)) da_nil)) (de_one (de_and (de_callB cd_isi (c.free "isinstance" (by decide)) rfl (dab_cons (db_var 0) (dab_cons (PE.db (de_ty (c.free "tuple" (by decide)) rfl)) dab_nil))) (de_one (de_callH bd (h_is_pair c) (da_cons (de_var 0 (by rfl)) da_nil))))))))
def b_told_ratio : MS := (sRet (gIf (g1 truD (gCall 1 g_is_whole (mCons (gVar 0) mNil))) (mTup (mCons (gVar 0) (mCons (gC (.int 1)) mNil))) (gCall 2 g_lowest (mCons (g2 ixD (gVar 0) (gC (.int 0))) (mCons (g2 ixD (gVar 0) (gC (.int 1))) mNil)))))
def N_told_ratio : List Str := ["value"]
def o_told_ratio : Nat → Bool := fun _ => false
def g_told_ratio : List D → M D := runD 1 b_told_ratio
theorem s_told_ratio : FnScope N_told_ratio ["value"] (defScope (top 19)) := ⟨by rfl, by rfl, by rfl, by decide, by rfl, by decide +kernel, by decide +kernel⟩
theorem h_told_ratio (c : Ctx K mg) : Has false P w K mg base 2 "told_ratio" 1 g_told_ratio :=
  Has.of (k := 1) (g := b_told_ratio) (N := N_told_ratio) (ps := ["value"]) o_told_ratio (c.dk 19 "told_ratio" (by decide)) s_told_ratio (by decide)
    (fun _ _ _ _ _ _ us h => match us, h with | [x0], _ => rfl)
    fun f cdv A outer s H E S F bd => (dss_one (ds_ret (de_if (dt_tru (PE.db (de_callH bd (h_is_whole c) (da_cons (de_var 0 (by rfl)) da_nil)))) (de_tup (da_cons (de_var 0 (by rfl)) (da_cons de_int da_nil))) (de_callH bd (h_lowest c) (da_cons (de_ix (db_var 0) (PE.db de_int)) (da_cons (de_ix (db_var 0) (PE.db de_int)) da_nil))))))
def b_loose_row : MS := (sSeq (sIf (gOr (gNot (g1 truD (g1 isiD (mCons (gVar 0) (mCons (gC (.ty "tuple")) mNil))))) (gNot (g1 truD (g1 allD (mCons (gLc [1] (g1 seqD (gVar 0)) (.nm 1) gYes (gCall 1 g_is_loose (mCons (gVar 1) mNil))) mNil))))) (sRet (gC .non)) sNext) (sRet (g1 tupleD (mCons (gLc [1] (g1 seqD (gVar 0)) (.nm 1) gYes (gCall 1 g_told_ratio (mCons (gVar 1) mNil))) mNil))))
def N_loose_row : List Str := ["value", "item"]
def o_loose_row : Nat → Bool := fun _ => false
def g_loose_row : List D → M D := runD 2 b_loose_row
theorem s_loose_row : FnScope N_loose_row ["value"] (defScope (top 20)) := ⟨by rfl, by rfl, by rfl, by decide, by rfl, by decide +kernel, by decide +kernel⟩
theorem h_loose_row (c : Ctx K mg) : Has false P w K mg base 4 "loose_row" 1 g_loose_row :=
  Has.of (k := 3) (g := b_loose_row) (N := N_loose_row) (ps := ["value"]) o_loose_row (c.dk 20 "loose_row" (by decide)) s_loose_row (by decide)
    (fun _ _ _ _ _ _ us h => match us, h with | [x0], _ => rfl)
    fun f cdv A outer s H E S F bd => (dss_cons (ds_if (PW.pt (dw_or (dt_not (dt_tru (PE.db (de_callB cd_isi (c.free "isinstance" (by decide)) rfl (dab_cons (db_var 0) (dab_cons (PE.db (de_ty (c.free "tuple" (by decide)) rfl)) dab_nil)))))) (dw_or1 (dt_not (dt_tru (PE.db (de_callB (cd_all bd.hc) (c.free "all" (by decide)) rfl (dab_cons (PE.db (PE.de (dn_lc [("item", 1)] bd.hc s_loose_row.nd (PI.e (di_seq (de_var 0 (by rfl)))) (blkOk_by (by rfl)) (show ∀ i ∈ ([1] : List Nat), o_loose_row i = false by decide) (by decide) (fun s H C' cl fp => (pgt_nm (i := 1) s_loose_row.nd)) (fun s H C' cl fp => dts_nil) (fun s H C' cl fp => (de_callH bd.blk (h_is_loose c) (da_cons (de_var 1 (by rfl)) da_nil)))))) dab_nil)))))))) (dss_one (ds_ret de_non)) dss_nil) (dss_one (ds_ret (de_callTy cd_tuple (c.free "tuple" (by decide)) rfl (dab_cons (PE.db (PE.de (dn_lc [("item", 1)] bd.hc s_loose_row.nd (PI.e (di_seq (de_var 0 (by rfl)))) (blkOk_by (by rfl)) (show ∀ i ∈ ([1] : List Nat), o_loose_row i = false by decide) (by decide) (fun s H C' cl fp => (pgt_nm (i := 1) s_loose_row.nd)) (fun s H C' cl fp => dts_nil) (fun s H C' cl fp => (de_callH bd.blk (h_told_ratio c) (da_cons (de_var 1 (by rfl)) da_nil)))))) dab_nil)))))
def b_row_from : MS := (sSeq (sSet 3 (gCall 1 g_loose_row (mCons (gCall 1 g_in_tuples (mCons (gVar 0) mNil)) mNil))) (sSeq (sIf (gOr (g1 boolD (g1 isNonD (gVar 3))) (gNot (g1 boolD (gChain leD leD (gVar 1) (g1 lenD (mCons (gVar 3) mNil)) (gVar 2))))) (sRaise "BadRow" ["row"] (mCons (gVar 0) mNil)) sNext) (sRet (gVar 3))))
def N_row_from : List Str := ["row", "least", "most", "made"]
def o_row_from : Nat → Bool := fun _ => false
def g_row_from : List D → M D := runD 4 b_row_from
theorem s_row_from : FnScope N_row_from ["row", "least", "most"] (defScope (top 21)) := ⟨by rfl, by rfl, by rfl, by decide, by rfl, by decide +kernel, by decide +kernel⟩
theorem h_row_from (c : Ctx K mg) : Has false P w K mg base 9 "row_from" 3 g_row_from :=
  Has.of (k := 8) (g := b_row_from) (N := N_row_from) (ps := ["row", "least", "most"]) o_row_from (c.dk 21 "row_from" (by decide)) s_row_from (by decide)
    (fun _ _ _ _ _ _ us h => match us, h with | [x0, x1, x2], _ => rfl)
    fun f cdv A outer s H E S F bd => (dss_cons (ds_set 3 (by rfl) s_row_from.nd (de_callH bd (h_loose_row c) (da_cons (de_callH bd (h_in_tuples c) (da_cons (de_var 0 (by rfl)) da_nil)) da_nil))) (dss_cons (ds_if (PW.pt (dw_or (dt_isN (db_var 3)) (dw_or1 (dt_not (dt_chain od_le od_le (db_var 1) (PE.db (de_callB cd_len (c.free "len" (by decide)) rfl (dab_cons (db_var 3) dab_nil))) (db_var 2)))))) (dss_one (c.raise_BadRow bd (da_cons (de_var 0 (by rfl)) da_nil))) dss_nil) (dss_one (ds_ret (de_var 3 (by rfl))))))
def b_sign_of : MS := (sRet (gIf (g1 boolD (g2 gtD (g2 ixD (gVar 0) (gC (.int 0))) (gC (.int 0)))) (gC (.int 1)) (gIf (g1 boolD (g2 ltD (g2 ixD (gVar 0) (gC (.int 0))) (gC (.int 0)))) (g1 negD (gC (.int 1))) (gC (.int 0)))))
def N_sign_of : List Str := ["ratio"]
def o_sign_of : Nat → Bool := fun _ => false
def g_sign_of : List D → M D := runD 1 b_sign_of
theorem s_sign_of : FnScope N_sign_of ["ratio"] (defScope (top 23)) := ⟨by rfl, by rfl, by rfl, by decide, by rfl, by decide +kernel, by decide +kernel⟩
theorem h_sign_of (c : Ctx K mg) : Has false P w K mg base 1 "sign_of" 1 g_sign_of :=
  Has.of (k := 0) (g := b_sign_of) (N := N_sign_of) (ps := ["ratio"]) o_sign_of (c.dk 23 "sign_of" (by decide)) s_sign_of (by decide)
    (fun _ _ _ _ _ _ us h => match us, h with | [x0], _ => rfl)
    fun f cdv A outer s H E S F bd => (dss_one (ds_ret (de_if (dt_cmp od_gt (PE.db (de_ix (db_var 0) (PE.db de_int))) (PE.db de_int) (nomark _)) de_int (de_if (dt_cmp od_lt (PE.db (de_ix (db_var 0) (PE.db de_int))) (PE.db de_int) (nomark _)) (de_un ud_neg (PE.db de_int)) de_int))))
def b_sign_changes : MS := (sSeq (sSet 1 (gLc [2] (g1 seqD (gVar 0)) (.nm 2) (g1 boolD (g2 neD (gVar 2) (gC (.int 0)))) (gVar 2))) (sRet (g1 lenD (mCons (gLc [3] (g1 rng1D (mCons (g2 subD (g1 lenD (mCons (gVar 1) mNil)) (gC (.int 1))) mNil)) (.nm 3) (g1 boolD (g2 neD (g2 ixD (gVar 1) (gVar 3)) (g2 ixD (gVar 1) (g2 addD (gVar 3) (gC (.int 1)))))) (gVar 3)) mNil))))
def N_sign_changes : List Str := ["signs", "some", "sign", "k"]
def o_sign_changes : Nat → Bool := fun _ => false
def g_sign_changes : List D → M D := runD 4 b_sign_changes
theorem s_sign_changes : FnScope N_sign_changes ["signs"] (defScope (top 24)) := ⟨by rfl, by rfl, by rfl, by decide, by rfl, by decide +kernel, by decide +kernel⟩
theorem h_sign_changes (c : Ctx K mg) : Has false P w K mg base 1 "sign_changes" 1 g_sign_changes :=
  Has.of (k := 0) (g := b_sign_changes) (N := N_sign_changes) (ps := ["signs"]) o_sign_changes (c.dk 24 "sign_changes" (by decide)) s_sign_changes (by decide)
    (fun _ _ _ _ _ _ us h => match us, h with | [x0], _ => rfl)
    fun f cdv A outer s H E S F bd => (dss_cons (ds_set 1 (by rfl) s_sign_changes.nd (PE.de (dn_lc [("sign", 2)] bd.hc s_sign_changes.nd (PI.e (di_seq (de_var 0 (by rfl)))) (blkOk_by (by rfl)) (show ∀ i ∈ ([2] : List Nat), o_sign_changes i = false by decide) (by decide) (fun s H C' cl fp => (pgt_nm (i := 2) s_sign_changes.nd)) (fun s H C' cl fp => (dts_one (dt_cmp (od_ne bd.blk.u64) (db_var 2) (PE.db de_int) (nomark _)))) (fun s H C' cl fp => (de_var 2 (by rfl)))))) (dss_one (ds_ret (de_callB cd_len (c.free "len" (by decide)) rfl (dab_cons (PE.db (PE.de (dn_lc [("k", 3)] bd.hc s_sign_changes.nd (PI.e (di_range1 (c.free "range" (by decide)) (da_cons (de_op2 od_sub (PE.db (de_callB cd_len (c.free "len" (by decide)) rfl (dab_cons (db_var 1) dab_nil))) (PE.db de_int)) da_nil))) (blkOk_by (by rfl)) (show ∀ i ∈ ([3] : List Nat), o_sign_changes i = false by decide) (by decide) (fun s H C' cl fp => (pgt_nm (i := 3) s_sign_changes.nd)) (fun s H C' cl fp => (dts_one (dt_cmp (od_ne bd.blk.u64) (PE.db (de_ix (db_var 1) (db_var 3))) (PE.db (de_ix (db_var 1) (PE.db (de_op2 od_add (db_var 3) (PE.db de_int))))) (nomark _)))) (fun s H C' cl fp => (de_var 3 (by rfl)))))) dab_nil)))))
def b_changes_by : MS := (sRet (gCall 1 g_sign_changes (mCons (gLc [1] (g1 seqD (gVar 0)) (.nm 1) gYes (gCall 1 g_sign_of (mCons (gVar 1) mNil))) mNil)))
def N_changes_by : List Str := ["row", "item"]
def o_changes_by : Nat → Bool := fun _ => false
def g_changes_by : List D → M D := runD 2 b_changes_by
theorem s_changes_by : FnScope N_changes_by ["row"] (defScope (top 26)) := ⟨by rfl, by rfl, by rfl, by decide, by rfl, by decide +kernel, by decide +kernel⟩
theorem h_changes_by (c : Ctx K mg) : Has false P w K mg base 2 "changes_by" 1 g_changes_by :=
  Has.of (k := 1) (g := b_changes_by) (N := N_changes_by) (ps := ["row"]) o_changes_by (c.dk 26 "changes_by" (by decide)) s_changes_by (by decide)
    (fun _ _ _ _ _ _ us h => match us, h with | [x0], _ => rfl)
    fun f cdv A outer s H E S F bd => (dss_one (ds_ret (de_callH bd (h_sign_changes c) (da_cons (PE.de (dn_lc [("item", 1)] bd.hc s_changes_by.nd (PI.e (di_seq (de_var 0 (by rfl)))) (blkOk_by (by rfl)) (show ∀ i ∈ ([1] : List Nat), o_changes_by i = false by decide) (by decide) (fun s H C' cl fp => (pgt_nm (i := 1) s_changes_by.nd)) (fun s H C' cl fp => dts_nil) (fun s H C' cl fp => (de_callH bd.blk (h_sign_of c) (da_cons (de_var 1 (by rfl)) da_nil))))) da_nil))))
def b_least_changes : MS := (sRet (gCall 1 g_changes_by (mCons (gCall 3 g_row_from (mCons (gVar 0) (mCons (gC (.int 1)) (mCons (gC (.int 6)) mNil)))) mNil)))
def N_least_changes : List Str := ["row"]
def o_least_changes : Nat → Bool := fun _ => false
def g_least_changes : List D → M D := runD 1 b_least_changes
theorem s_least_changes : FnScope N_least_changes ["row"] (defScope (top 27)) := ⟨by rfl, by rfl, by rfl, by decide, by rfl, by decide +kernel, by decide +kernel⟩
theorem h_least_changes (c : Ctx K mg) : Has false P w K mg base 10 "least_changes" 1 g_least_changes :=
  Has.of (k := 9) (g := b_least_changes) (N := N_least_changes) (ps := ["row"]) o_least_changes (c.dk 27 "least_changes" (by decide)) s_least_changes (by decide)
    (fun _ _ _ _ _ _ us h => match us, h with | [x0], _ => rfl)
    fun f cdv A outer s H E S F bd => (dss_one (ds_ret (de_callH bd (h_changes_by c) (da_cons (de_callH bd (h_row_from c) (da_cons (de_var 0 (by rfl)) (da_cons de_int (da_cons (c.glob_MOST) da_nil)))) da_nil))))
def b_next_best : MS := (sSeq (sSet 2 (gC (.dct []))) (sSeq (sFor (.nm 3) (g1 seqD (gVar 1)) (sSeq (sSet 4 (gLc [5] (g1 seqD (g1 sortKD (mCons (gVar 0) mNil))) (.nm 5) gYes (g2 addD (g2 getD_ (gVar 0) (gVar 5)) (gIf (g1 boolD (g2 neD (gVar 5) (gVar 3))) (gC (.int 1)) (gC (.int 0)))))) (sIf (g1 boolD (g2 gtD (g1 lenD (mCons (gVar 4) mNil)) (gC (.int 0)))) (sDput 2 (gVar 3) (g1 maxD (mCons (gVar 4) mNil))) sNext))) (sRet (gDct 2))))
def N_next_best : List Str := ["best", "able", "out", "sign", "some", "other"]
def o_next_best : Nat → Bool := fun i => i == 2
def g_next_best : List D → M D := runD 6 b_next_best
theorem s_next_best : FnScope N_next_best ["best", "able"] (defScope (top 29)) := ⟨by rfl, by rfl, by rfl, by decide, by rfl, by decide +kernel, by decide +kernel⟩
theorem h_next_best (c : Ctx K mg) : Has false P w K mg base 1 "next_best" 2 g_next_best :=
  Has.of (k := 0) (g := b_next_best) (N := N_next_best) (ps := ["best", "able"]) o_next_best (c.dk 29 "next_best" (by decide)) s_next_best (by decide)
    (fun _ _ _ _ _ _ us h => match us, h with | [x0, x1], _ => rfl)
    fun f cdv A outer s H E S F bd => (dss_cons (ds_dict0 2 (by rfl) s_next_best.nd) (dss_cons (ds_for bd.hp bd.hc (show ∀ i ∈ ([3] : List Nat), o_next_best i = false by decide) (di_seq (de_var 1 (by rfl))) (pgt_nm (i := 3) s_next_best.nd) (dss_cons (ds_setLc 4 [("other", 5)] bd.hc s_next_best.nd (by rfl) (PI.e (di_seq (PE.de (dn_callB (cn_sortK bd.hc) (c.free "sorted" (by decide)) rfl (dab_cons (db_var 0) dab_nil))))) (blkOk_by (by rfl)) (show ∀ i ∈ ([5] : List Nat), o_next_best i = false by decide) (by decide) (fun s H C' cl fp => (pgt_nm (i := 5) s_next_best.nd)) (fun s H C' cl fp => dts_nil) (fun s H C' cl fp => (de_op2 od_add (PE.db (de_dget bd.blk.u1 (db_var 0) (de_var 5 (by rfl)))) (PE.db (de_if (dt_cmp (od_ne bd.blk.u64) (db_var 5) (db_var 3) (nomark _)) de_int de_int))))) (dss_one (ds_if (dt_cmp od_gt (PE.db (de_callB cd_len (c.free "len" (by decide)) rfl (dab_cons (db_var 4) dab_nil))) (PE.db de_int) (nomark _)) (dss_one (ds_dput 2 bd.u1 (by rfl) (de_var 3 (by rfl)) (de_callB (cd_max bd.hc) (c.free "max" (by decide)) rfl (dab_cons (db_var 4) dab_nil)))) dss_nil)))) (dss_one (ds_retD 2 (by rfl)))))
def b_most_by : MS := (sSeq (sSet 2 (gC (.dct []))) (sSeq (sFor (.tp [3, 4]) (g1 enumTD (mCons (gVar 0) mNil)) (sSeq (sSet 5 (gLc [6] (g1 seqD (mTup (mCons (gC (.int 1)) (mCons (g1 negD (gC (.int 1))) mNil)))) (.nm 6) (g1 boolD (g2 inD (gCall 1 g_sign_of (mCons (gVar 4) mNil)) (mTup (mCons (gC (.int 0)) (mCons (gVar 6) mNil))))) (gVar 6))) (sIf (g1 boolD (g2 eqD (gVar 3) (gC (.int 0)))) (sSet 2 (g1 dictD (gLc [6] (g1 seqD (gVar 5)) (.nm 6) (g1 boolD (g2 eqD (gVar 6) (gVar 1))) (mTup (mCons (gVar 6) (mCons (gC (.int 0)) mNil)))))) (sSet 2 (gCall 2 g_next_best (mCons (gVar 2) (mCons (gVar 5) mNil))))))) (sRet (gIf (g1 boolD (g2 gtD (g1 lenKD (mCons (gVar 2) mNil)) (gC (.int 0)))) (g1 maxD (mCons (gLc [6] (g1 keysD (gVar 2)) (.nm 6) gYes (g2 getD_ (gVar 2) (gVar 6))) mNil)) (gC .non)))))
def N_most_by : List Str := ["row", "first", "best", "k", "item", "able", "sign"]
def o_most_by : Nat → Bool := fun _ => false
def g_most_by : List D → M D := runD 7 b_most_by
theorem s_most_by : FnScope N_most_by ["row", "first"] (defScope (top 28)) := ⟨by rfl, by rfl, by rfl, by decide, by rfl, by decide +kernel, by decide +kernel⟩
theorem h_most_by (c : Ctx K mg) : Has false P w K mg base 2 "most_by" 2 g_most_by :=
  Has.of (k := 1) (g := b_most_by) (N := N_most_by) (ps := ["row", "first"]) o_most_by (c.dk 28 "most_by" (by decide)) s_most_by (by decide)
    (fun _ _ _ _ _ _ us h => match us, h with | [x0, x1], _ => rfl)
    fun f cdv A outer s H E S F bd => (dss_cons (ds_set 2 (by rfl) s_most_by.nd de_dict0) (dss_cons (ds_for bd.hp bd.hc (show ∀ i ∈ ([3, 4] : List Nat), o_most_by i = false by decide) (di_enumT (c.free "enumerate" (by decide)) (da_cons (de_var 0 (by rfl)) da_nil)) (pgt_tp (is := [3, 4]) bd.hc (pgs_n (pgt_nm (i := 3) s_most_by.nd) (pgs_n (pgt_nm (i := 4) s_most_by.nd) pgs_0))) (dss_cons (ds_setLc 5 [("sign", 6)] bd.hc s_most_by.nd (by rfl) (PI.e (di_seq (de_tup (da_cons de_int (da_cons (de_un ud_neg (PE.db de_int)) da_nil))))) (blkOk_by (by rfl)) (show ∀ i ∈ ([6] : List Nat), o_most_by i = false by decide) (by decide) (fun s H C' cl fp => (pgt_nm (i := 6) s_most_by.nd)) (fun s H C' cl fp => (dts_one (dt_cmp od_in (PE.db (de_callH bd.blk (h_sign_of c) (da_cons (de_var 4 (by rfl)) da_nil))) (PE.db (de_tup (da_cons de_int (da_cons (de_var 6 (by rfl)) da_nil)))) (by with_unfolding_all rfl)))) (fun s H C' cl fp => (de_var 6 (by rfl)))) (dss_one (ds_if (dt_cmp (od_eq bd.u64) (db_var 3) (PE.db de_int) (nomark _)) (dss_one (ds_set 2 (by rfl) s_most_by.nd (de_dict bd.hc (c.free "dict" (by decide)) (PE.db (PE.de (dn_lc [("sign", 6)] bd.hc s_most_by.nd (PI.e (di_seq (de_var 5 (by rfl)))) (blkOk_by (by rfl)) (show ∀ i ∈ ([6] : List Nat), o_most_by i = false by decide) (by decide) (fun s H C' cl fp => (pgt_nm (i := 6) s_most_by.nd)) (fun s H C' cl fp => (dts_one (dt_cmp (od_eq bd.blk.u64) (db_var 6) (db_var 1) (nomark _)))) (fun s H C' cl fp => (de_tup (da_cons (de_var 6 (by rfl)) (da_cons de_int da_nil)))))))))) (dss_one (ds_set 2 (by rfl) s_most_by.nd (de_callH bd (h_next_best c) (da_cons (de_var 2 (by rfl)) (da_cons (de_var 5 (by rfl)) da_nil))))))))) (dss_one (ds_ret (de_if (dt_cmp od_gt (PE.db (de_callB cd_lenK (c.free "len" (by decide)) rfl (dab_cons (db_var 2) dab_nil))) (PE.db de_int) (nomark _)) (de_callB (cd_max bd.hc) (c.free "max" (by decide)) rfl (dab_cons (PE.db (PE.de (dn_lc [("sign", 6)] bd.hc s_most_by.nd (PI.e (di_keys (de_var 2 (by rfl)))) (blkOk_by (by rfl)) (show ∀ i ∈ ([6] : List Nat), o_most_by i = false by decide) (by decide) (fun s H C' cl fp => (pgt_nm (i := 6) s_most_by.nd)) (fun s H C' cl fp => dts_nil) (fun s H C' cl fp => (de_dget bd.blk.u1 (db_var 2) (de_var 6 (by rfl))))))) dab_nil)) de_non)))))
def b_greatest_changes : MS := (sSeq (sSet 1 (gCall 3 g_row_from (mCons (gVar 0) (mCons (gC (.int 1)) (mCons (gC (.int 6)) mNil))))) (sRet (g1 maxD (mCons (gLc [2] (g1 seqD (mTup (mCons (gCall 2 g_most_by (mCons (gVar 1) (mCons (gC (.int 1)) mNil))) (mCons (gCall 2 g_most_by (mCons (gVar 1) (mCons (g1 negD (gC (.int 1))) mNil))) mNil)))) (.nm 2) (g1 boolD (g1 notNonD (gVar 2))) (gVar 2)) mNil))))
def N_greatest_changes : List Str := ["row", "made", "many"]
def o_greatest_changes : Nat → Bool := fun _ => false
def g_greatest_changes : List D → M D := runD 3 b_greatest_changes
theorem s_greatest_changes : FnScope N_greatest_changes ["row"] (defScope (top 30)) := ⟨by rfl, by rfl, by rfl, by decide, by rfl, by decide +kernel, by decide +kernel⟩
theorem h_greatest_changes (c : Ctx K mg) : Has false P w K mg base 10 "greatest_changes" 1 g_greatest_changes :=
  Has.of (k := 9) (g := b_greatest_changes) (N := N_greatest_changes) (ps := ["row"]) o_greatest_changes (c.dk 30 "greatest_changes" (by decide)) s_greatest_changes (by decide)
    (fun _ _ _ _ _ _ us h => match us, h with | [x0], _ => rfl)
    fun f cdv A outer s H E S F bd => (dss_cons (ds_set 1 (by rfl) s_greatest_changes.nd (de_callH bd (h_row_from c) (da_cons (de_var 0 (by rfl)) (da_cons de_int (da_cons (c.glob_MOST) da_nil))))) (dss_one (ds_ret (de_callB (cd_max bd.hc) (c.free "max" (by decide)) rfl (dab_cons (PE.db (PE.de (dn_lc [("many", 2)] bd.hc s_greatest_changes.nd (PI.e (di_seq (de_tup (da_cons (de_callH bd (h_most_by c) (da_cons (de_var 1 (by rfl)) (da_cons de_int da_nil))) (da_cons (de_callH bd (h_most_by c) (da_cons (de_var 1 (by rfl)) (da_cons (de_un ud_neg (PE.db de_int)) da_nil))) da_nil))))) (blkOk_by (by rfl)) (show ∀ i ∈ ([2] : List Nat), o_greatest_changes i = false by decide) (by decide) (fun s H C' cl fp => (pgt_nm (i := 2) s_greatest_changes.nd)) (fun s H C' cl fp => (dts_one (dt_notN (db_var 2)))) (fun s H C' cl fp => (de_var 2 (by rfl)))))) dab_nil)))))
def b_first_by : MS := (sSeq (sSet 1 (gLc [2] (g1 seqD (gVar 0)) (.nm 2) (g1 boolD (g2 neD (gVar 2) (gC (.tup [.int 0, .int 1])))) (gCall 1 g_sign_of (mCons (gVar 2) mNil)))) (sRet (gIf (g1 boolD (g2 gtD (g1 lenD (mCons (gVar 1) mNil)) (gC (.int 0)))) (g2 ixD (gVar 1) (gC (.int 0))) (gC (.int 0)))))
def N_first_by : List Str := ["row", "some", "item"]
def o_first_by : Nat → Bool := fun _ => false
def g_first_by : List D → M D := runD 3 b_first_by
theorem s_first_by : FnScope N_first_by ["row"] (defScope (top 31)) := ⟨by rfl, by rfl, by rfl, by decide, by rfl, by decide +kernel, by decide +kernel⟩
theorem h_first_by (c : Ctx K mg) : Has false P w K mg base 2 "first_by" 1 g_first_by :=
  Has.of (k := 1) (g := b_first_by) (N := N_first_by) (ps := ["row"]) o_first_by (c.dk 31 "first_by" (by decide)) s_first_by (by decide)
    (fun _ _ _ _ _ _ us h => match us, h with | [x0], _ => rfl)
    fun f cdv A outer s H E S F bd => (dss_cons (ds_setLc 1 [("item", 2)] bd.hc s_first_by.nd (by rfl) (PI.e (di_seq (de_var 0 (by rfl)))) (blkOk_by (by rfl)) (show ∀ i ∈ ([2] : List Nat), o_first_by i = false by decide) (by decide) (fun s H C' cl fp => (pgt_nm (i := 2) s_first_by.nd)) (fun s H C' cl fp => (dts_one (dt_cmp (od_ne bd.blk.u64) (db_var 2) (PE.db (c.glob_NONE)) (nomark _)))) (fun s H C' cl fp => (de_callH bd.blk (h_sign_of c) (da_cons (de_var 2 (by rfl)) da_nil)))) (dss_one (ds_ret (de_if (dt_cmp od_gt (PE.db (de_callB cd_len (c.free "len" (by decide)) rfl (dab_cons (db_var 1) dab_nil))) (PE.db de_int) (nomark _)) (de_ix (db_var 1) (PE.db de_int)) de_int))))
def b_first_sign : MS := (sRet (gCall 1 g_first_by (mCons (gCall 3 g_row_from (mCons (gVar 0) (mCons (gC (.int 1)) (mCons (gC (.int 6)) mNil)))) mNil)))
def N_first_sign : List Str := ["row"]
def o_first_sign : Nat → Bool := fun _ => false
def g_first_sign : List D → M D := runD 1 b_first_sign
theorem s_first_sign : FnScope N_first_sign ["row"] (defScope (top 32)) := ⟨by rfl, by rfl, by rfl, by decide, by rfl, by decide +kernel, by decide +kernel⟩
theorem h_first_sign (c : Ctx K mg) : Has false P w K mg base 10 "first_sign" 1 g_first_sign :=
  Has.of (k := 9) (g := b_first_sign) (N := N_first_sign) (ps := ["row"]) o_first_sign (c.dk 32 "first_sign" (by decide)) s_first_sign (by decide)
    (fun _ _ _ _ _ _ us h => match us, h with | [x0], _ => rfl)
    fun f cdv A outer s H E S F bd => (dss_one (ds_ret (de_callH bd (h_first_by c) (da_cons (de_callH bd (h_row_from c) (da_cons (de_var 0 (by rfl)) (da_cons de_int (da_cons (c.glob_MOST) da_nil)))) da_nil))))
def b__law_draw : MS := (sSeq (sPen 0 .count (g2 addD (gPen 0 .count) (gC (.int 1)))) (sSeq (sIf (gAnd (g1 boolD (g2 eqD (gPen 0 .digits) (gC (.int 0)))) (g1 boolD (g2 ltD (gPen 0 .at_) (g1 lenD (mCons (gCel 0) mNil))))) (sSeq (sSet 2 (g2 ixD (gCel 0) (gPen 0 .at_))) (sSeq (sPen 0 .at_ (g2 addD (gPen 0 .at_) (gC (.int 1)))) (sIf (g1 boolD (g2 geD (gVar 2) (g2 powD (gC (.int 10)) (gC (.int 18))))) (sPen 0 .digits (g2 subD (gVar 2) (g2 powD (gC (.int 10)) (gC (.int 18))))) (sPen 0 .fold (g2 modD (g1 intD (mCons (g2 addD (g2 mulD (gPen 0 .fold) (gC (.int 30727))) (gVar 2)) mNil)) (gC (.int 2147483179))))))) sNext) (sSeq (sIf (g1 boolD (g2 gtD (gPen 0 .digits) (gC (.int 0)))) (sSeq (sSet 3 (g2 modD (g1 intD (mCons (gPen 0 .digits) mNil)) (gVar 1))) (sSeq (sPen 0 .digits (g2 fdivD (gPen 0 .digits) (gVar 1))) (sRet (gVar 3)))) sNext) (sSeq (sSet 4 (g2 addD (g2 addD (gPen 0 .fold) (g2 mulD (gPen 0 .count) (gC (.int 6421)))) (gC (.int 131)))) (sRet (g2 modD (g2 fdivD (g1 intD (mCons (g2 modD (g2 powD (gVar 4) (gC (.int 47))) (gC (.int 2305843009213693951))) mNil)) (gC (.int 512))) (gVar 1)))))))
def N__law_draw : List Str := ["pen", "many", "cell", "digit", "blend"]
def o__law_draw : Nat → Bool := fun _ => false
def g__law_draw : List D → M D := runD 5 b__law_draw
theorem s__law_draw : FnScope N__law_draw ["pen", "many"] (defScope (top 35)) := ⟨by rfl, by rfl, by rfl, by decide, by rfl, by decide +kernel, by decide +kernel⟩
theorem h__law_draw (c : Ctx K mg) : Has false P w K mg base 1 "_law_draw" 2 g__law_draw :=
  Has.of (k := 0) (g := b__law_draw) (N := N__law_draw) (ps := ["pen", "many"]) o__law_draw (c.dk 35 "_law_draw" (by decide)) s__law_draw (by decide)
    (fun _ _ _ _ _ _ us h => match us, h with | [x0, x1], _ => rfl)
    fun f cdv A outer s H E S F bd => (dss_cons (ds_pen 0 .count rfl bd.u1 (by rfl) (de_op2 od_add (PE.db (de_pen 0 .count rfl bd.u1 (by rfl))) (PE.db de_int))) (dss_cons (ds_if (PW.pt (dw_and (dt_cmp (od_eq bd.u64) (PE.db (de_pen 0 .digits rfl bd.u1 (by rfl))) (PE.db de_int) (nomark _)) (dw_and1 (dt_cmp od_lt (PE.db (de_pen 0 .at_ rfl bd.u1 (by rfl))) (PE.db (de_callB cd_len (c.free "len" (by decide)) rfl (dab_cons (de_cel 0 bd.u1 (by rfl)) dab_nil))) (nomark _))))) (dss_cons (ds_set 2 (by rfl) s__law_draw.nd (de_ix (de_cel 0 bd.u1 (by rfl)) (PE.db (de_pen 0 .at_ rfl bd.u1 (by rfl))))) (dss_cons (ds_pen 0 .at_ rfl bd.u1 (by rfl) (de_op2 od_add (PE.db (de_pen 0 .at_ rfl bd.u1 (by rfl))) (PE.db de_int))) (dss_one (ds_if (dt_cmp od_ge (db_var 2) (PE.db (de_op2 od_pow (PE.db de_int) (PE.db de_int))) (nomark _)) (dss_one (ds_pen 0 .digits rfl bd.u1 (by rfl) (de_op2 od_sub (db_var 2) (PE.db (de_op2 od_pow (PE.db de_int) (PE.db de_int)))))) (dss_one (ds_pen 0 .fold rfl bd.u1 (by rfl) (de_op2 od_mod (PE.db (de_callTy cd_int (c.free "int" (by decide)) rfl (dab_cons (PE.db (de_op2 od_add (PE.db (de_op2 od_mul (PE.db (de_pen 0 .fold rfl bd.u1 (by rfl))) (PE.db de_int))) (db_var 2))) dab_nil))) (PE.db de_int)))))))) dss_nil) (dss_cons (ds_if (dt_cmp od_gt (PE.db (de_pen 0 .digits rfl bd.u1 (by rfl))) (PE.db de_int) (nomark _)) (dss_cons (ds_set 3 (by rfl) s__law_draw.nd (de_op2 od_mod (PE.db (de_callTy cd_int (c.free "int" (by decide)) rfl (dab_cons (PE.db (de_pen 0 .digits rfl bd.u1 (by rfl))) dab_nil))) (db_var 1))) (dss_cons (ds_pen 0 .digits rfl bd.u1 (by rfl) (de_op2 od_fdiv (PE.db (de_pen 0 .digits rfl bd.u1 (by rfl))) (db_var 1))) (dss_one (ds_ret (de_var 3 (by rfl)))))) dss_nil) (dss_cons (ds_set 4 (by rfl) s__law_draw.nd (de_op2 od_add (PE.db (de_op2 od_add (PE.db (de_pen 0 .fold rfl bd.u1 (by rfl))) (PE.db (de_op2 od_mul (PE.db (de_pen 0 .count rfl bd.u1 (by rfl))) (PE.db de_int))))) (PE.db de_int))) (dss_one (ds_ret (de_op2 od_mod (PE.db (de_op2 od_fdiv (PE.db (de_callTy cd_int (c.free "int" (by decide)) rfl (dab_cons (PE.db (de_op2 od_mod (PE.db (de_op2 od_pow (db_var 4) (PE.db de_int))) (PE.db de_int))) dab_nil))) (PE.db de_int))) (db_var 1))))))))
def b__law_pick : MS := (sRet (g2 ixD (gVar 1) (gCall 2 g__law_draw (mCons (gVar 0) (mCons (g1 lenD (mCons (gVar 1) mNil)) mNil)))))
def N__law_pick : List Str := ["pen", "some"]
def o__law_pick : Nat → Bool := fun _ => false
def g__law_pick : List D → M D := runD 2 b__law_pick
theorem s__law_pick : FnScope N__law_pick ["pen", "some"] (defScope (top 36)) := ⟨by rfl, by rfl, by rfl, by decide, by rfl, by decide +kernel, by decide +kernel⟩
theorem h__law_pick (c : Ctx K mg) : Has false P w K mg base 2 "_law_pick" 2 g__law_pick :=
  Has.of (k := 1) (g := b__law_pick) (N := N__law_pick) (ps := ["pen", "some"]) o__law_pick (c.dk 36 "_law_pick" (by decide)) s__law_pick (by decide)
    (fun _ _ _ _ _ _ us h => match us, h with | [x0, x1], _ => rfl)
    fun f cdv A outer s H E S F bd => (dss_one (ds_ret (de_ix (db_var 1) (PE.db (de_callH bd (h__law_draw c) (da_cons (de_var 0 (by rfl)) (da_cons (de_callB cd_len (c.free "len" (by decide)) rfl (dab_cons (db_var 1) dab_nil)) da_nil)))))))
def b__law_gcd : MS := (sSeq (sPar 0 1 (g1 absD (mCons (gVar 0) mNil)) (g1 absD (mCons (gVar 1) mNil))) (sSeq (sFor (.nm 2) (g1 rng1D (mCons (g2 addD (gC (.int 4)) (g2 mulD (gC (.int 2)) (g1 bitsD (g1 intD (mCons (gVar 1) mNil))))) mNil)) (sSeq (sIf (g1 boolD (g2 eqD (gVar 1) (gC (.int 0)))) sBrk sNext) (sPar 0 1 (gVar 1) (g2 modD (g1 intD (mCons (gVar 0) mNil)) (gVar 1))))) (sRet (gVar 0))))
def N__law_gcd : List Str := ["one", "two", "lap"]
def o__law_gcd : Nat → Bool := fun _ => false
def g__law_gcd : List D → M D := runD 3 b__law_gcd
theorem s__law_gcd : FnScope N__law_gcd ["one", "two"] (defScope (top 37)) := ⟨by rfl, by rfl, by rfl, by decide, by rfl, by decide +kernel, by decide +kernel⟩
theorem h__law_gcd (c : Ctx K mg) : Has false P w K mg base 1 "_law_gcd" 2 g__law_gcd :=
  Has.of (k := 0) (g := b__law_gcd) (N := N__law_gcd) (ps := ["one", "two"]) o__law_gcd (c.dk 37 "_law_gcd" (by decide)) s__law_gcd (by decide)
    (fun _ _ _ _ _ _ us h => match us, h with | [x0, x1], _ => rfl)
    fun f cdv A outer s H E S F bd => (dss_cons (ds_par (i := 0) (j := 1) (by rfl) (by rfl) bd.hc s__law_gcd.nd (de_callB cd_abs (c.free "abs" (by decide)) rfl (dab_cons (db_var 0) dab_nil)) (de_callB cd_abs (c.free "abs" (by decide)) rfl (dab_cons (db_var 1) dab_nil))) (dss_cons (ds_for bd.hp bd.hc (show ∀ i ∈ ([2] : List Nat), o__law_gcd i = false by decide) (di_range1 (c.free "range" (by decide)) (da_cons (de_op2 od_add (PE.db de_int) (PE.db (de_op2 od_mul (PE.db de_int) (PE.db (de_bits (de_callTy cd_int (c.free "int" (by decide)) rfl (dab_cons (db_var 1) dab_nil))))))) da_nil)) (pgt_nm (i := 2) s__law_gcd.nd) (dss_cons (ds_if (dt_cmp (od_eq bd.u64) (db_var 1) (PE.db de_int) (nomark _)) (dss_one ds_break) dss_nil) (dss_one (ds_par (i := 0) (j := 1) (by rfl) (by rfl) bd.hc s__law_gcd.nd (de_var 1 (by rfl)) (de_op2 od_mod (PE.db (de_callTy cd_int (c.free "int" (by decide)) rfl (dab_cons (db_var 0) dab_nil))) (db_var 1)))))) (dss_one (ds_ret (de_var 0 (by rfl))))))
def b__law_q : MS := (sSeq (sSet 2 (gCall 2 g__law_gcd (mCons (gVar 0) (mCons (gVar 1) mNil)))) (sSeq (sSet 2 (gIf (g1 boolD (g2 ltD (gVar 1) (gC (.int 0)))) (g1 negD (gVar 2)) (gVar 2))) (sRet (mTup (mCons (g2 fdivD (gVar 0) (gVar 2)) (mCons (g2 fdivD (gVar 1) (gVar 2)) mNil))))))
def N__law_q : List Str := ["top", "bottom", "by"]
def o__law_q : Nat → Bool := fun _ => false
def g__law_q : List D → M D := runD 3 b__law_q
theorem s__law_q : FnScope N__law_q ["top", "bottom"] (defScope (top 38)) := ⟨by rfl, by rfl, by rfl, by decide, by rfl, by decide +kernel, by decide +kernel⟩
theorem h__law_q (c : Ctx K mg) : Has false P w K mg base 2 "_law_q" 2 g__law_q :=
  Has.of (k := 1) (g := b__law_q) (N := N__law_q) (ps := ["top", "bottom"]) o__law_q (c.dk 38 "_law_q" (by decide)) s__law_q (by decide)
    (fun _ _ _ _ _ _ us h => match us, h with | [x0, x1], _ => rfl)
    fun f cdv A outer s H E S F bd => (dss_cons (ds_set 2 (by rfl) s__law_q.nd (de_callH bd (h__law_gcd c) (da_cons (de_var 0 (by rfl)) (da_cons (de_var 1 (by rfl)) da_nil)))) (dss_cons (ds_set 2 (by rfl) s__law_q.nd (de_if (dt_cmp od_lt (db_var 1) (PE.db de_int) (nomark _)) (de_un ud_neg (db_var 2)) (de_var 2 (by rfl)))) (dss_one (ds_ret (de_tup (da_cons (de_op2 od_fdiv (db_var 0) (db_var 2)) (da_cons (de_op2 od_fdiv (db_var 1) (db_var 2)) da_nil)))))))
def b__law_times : MS := (sRet (gCall 2 g__law_q (mCons (g2 mulD (g2 ixD (gVar 0) (gC (.int 0))) (g2 ixD (gVar 1) (gC (.int 0)))) (mCons (g2 mulD (g2 ixD (gVar 0) (gC (.int 1))) (g2 ixD (gVar 1) (gC (.int 1)))) mNil))))
def N__law_times : List Str := ["one", "two"]
def o__law_times : Nat → Bool := fun _ => false
def g__law_times : List D → M D := runD 2 b__law_times
theorem s__law_times : FnScope N__law_times ["one", "two"] (defScope (top 39)) := ⟨by rfl, by rfl, by rfl, by decide, by rfl, by decide +kernel, by decide +kernel⟩
theorem h__law_times (c : Ctx K mg) : Has false P w K mg base 3 "_law_times" 2 g__law_times :=
  Has.of (k := 2) (g := b__law_times) (N := N__law_times) (ps := ["one", "two"]) o__law_times (c.dk 39 "_law_times" (by decide)) s__law_times (by decide)
    (fun _ _ _ _ _ _ us h => match us, h with | [x0, x1], _ => rfl)
    fun f cdv A outer s H E S F bd => (dss_one (ds_ret (de_callH bd (h__law_q c) (da_cons (de_op2 od_mul (PE.db (de_ix (db_var 0) (PE.db de_int))) (PE.db (de_ix (db_var 1) (PE.db de_int)))) (da_cons (de_op2 od_mul (PE.db (de_ix (db_var 0) (PE.db de_int))) (PE.db (de_ix (db_var 1) (PE.db de_int)))) da_nil)))))
def b__law_handed : MS := (sSeq (sIf (gAnd (g1 boolD (g2 eqD (g2 ixD (gVar 1) (gC (.int 1))) (gC (.int 1)))) (g1 boolD (g2 eqD (gCall 2 g__law_draw (mCons (gVar 0) (mCons (gC (.int 2)) mNil))) (gC (.int 0))))) (sRet (g2 ixD (gVar 1) (gC (.int 0)))) sNext) (sSeq (sSet 2 (gCall 2 g__law_pick (mCons (gVar 0) (mCons (mLst (mCons (gC (.int 1)) (mCons (gC (.int 1)) (mCons (gC (.int 2)) (mCons (gC (.int 5)) mNil))))) mNil)))) (sRet (gCall 2 g__law_pick (mCons (gVar 0) (mCons (mLst (mCons (mTup (mCons (g2 mulD (g2 ixD (gVar 1) (gC (.int 0))) (gVar 2)) (mCons (g2 mulD (g2 ixD (gVar 1) (gC (.int 1))) (gVar 2)) mNil))) (mCons (mLst (mCons (g2 mulD (g2 ixD (gVar 1) (gC (.int 0))) (gVar 2)) (mCons (g2 mulD (g2 ixD (gVar 1) (gC (.int 1))) (gVar 2)) mNil))) mNil))) mNil))))))
def N__law_handed : List Str := ["pen", "ratio", "by"]
def o__law_handed : Nat → Bool := fun _ => false
def g__law_handed : List D → M D := runD 3 b__law_handed
theorem s__law_handed : FnScope N__law_handed ["pen", "ratio"] (defScope (top 40)) := ⟨by rfl, by rfl, by rfl, by decide, by rfl, by decide +kernel, by decide +kernel⟩
theorem h__law_handed (c : Ctx K mg) : Has false P w K mg base 3 "_law_handed" 2 g__law_handed :=
  Has.of (k := 2) (g := b__law_handed) (N := N__law_handed) (ps := ["pen", "ratio"]) o__law_handed (c.dk 40 "_law_handed" (by decide)) s__law_handed (by decide)
    (fun _ _ _ _ _ _ us h => match us, h with | [x0, x1], _ => rfl)
    fun f cdv A outer s H E S F bd => (dss_cons (ds_if (PW.pt (dw_and (dt_cmp (od_eq bd.u64) (PE.db (de_ix (db_var 1) (PE.db de_int))) (PE.db de_int) (nomark _)) (dw_and1 (dt_cmp (od_eq bd.u64) (PE.db (de_callH bd (h__law_draw c) (da_cons (de_var 0 (by rfl)) (da_cons de_int da_nil)))) (PE.db de_int) (nomark _))))) (dss_one (ds_ret (de_ix (db_var 1) (PE.db de_int)))) dss_nil) (dss_cons (ds_set 2 (by rfl) s__law_handed.nd (de_callH bd (h__law_pick c) (da_cons (de_var 0 (by rfl)) (da_cons (PE.de (dn_lst (da_cons de_int (da_cons de_int (da_cons de_int (da_cons de_int da_nil)))))) da_nil)))) (dss_one (ds_ret (de_callH bd (h__law_pick c) (da_cons (de_var 0 (by rfl)) (da_cons (PE.de (dn_lst (da_cons (de_tup (da_cons (de_op2 od_mul (PE.db (de_ix (db_var 1) (PE.db de_int))) (db_var 2)) (da_cons (de_op2 od_mul (PE.db (de_ix (db_var 1) (PE.db de_int))) (db_var 2)) da_nil))) (da_cons (PE.de (dn_lst (da_cons (de_op2 od_mul (PE.db (de_ix (db_var 1) (PE.db de_int))) (db_var 2)) (da_cons (de_op2 od_mul (PE.db (de_ix (db_var 1) (PE.db de_int))) (db_var 2)) da_nil)))) da_nil)))) da_nil)))))))
def b__law_passed : MS := (sRet (gCall 2 g__law_pick (mCons (gVar 0) (mCons (mLst (mCons (g1 tupleD (mCons (gVar 1) mNil)) (mCons (g1 listD (mCons (gVar 1) mNil)) mNil))) mNil))))
def N__law_passed : List Str := ["pen", "row"]
def o__law_passed : Nat → Bool := fun _ => false
def g__law_passed : List D → M D := runD 2 b__law_passed
theorem s__law_passed : FnScope N__law_passed ["pen", "row"] (defScope (top 41)) := ⟨by rfl, by rfl, by rfl, by decide, by rfl, by decide +kernel, by decide +kernel⟩
theorem h__law_passed (c : Ctx K mg) : Has false P w K mg base 3 "_law_passed" 2 g__law_passed :=
  Has.of (k := 2) (g := b__law_passed) (N := N__law_passed) (ps := ["pen", "row"]) o__law_passed (c.dk 41 "_law_passed" (by decide)) s__law_passed (by decide)
    (fun _ _ _ _ _ _ us h => match us, h with | [x0, x1], _ => rfl)
    fun f cdv A outer s H E S F bd => (dss_one (ds_ret (de_callH bd (h__law_pick c) (da_cons (de_var 0 (by rfl)) (da_cons (PE.de (dn_lst (da_cons (de_callTy cd_tuple (c.free "tuple" (by decide)) rfl (dab_cons (db_var 1) dab_nil)) (da_cons (PE.de (dn_callTy cn_list (c.free "list" (by decide)) rfl (dab_cons (db_var 1) dab_nil))) da_nil)))) da_nil)))))
def b__law_ratio : MS := (sRet (gCall 2 g__law_q (mCons (g2 subD (gCall 2 g__law_draw (mCons (gVar 0) (mCons (g2 addD (g2 mulD (gC (.int 2)) (gVar 1)) (gC (.int 1))) mNil))) (gVar 1)) (mCons (gCall 2 g__law_pick (mCons (gVar 0) (mCons (mLst (mCons (gC (.int 1)) (mCons (gC (.int 1)) (mCons (gC (.int 2)) (mCons (gC (.int 3)) mNil))))) mNil))) mNil))))
def N__law_ratio : List Str := ["pen", "most"]
def o__law_ratio : Nat → Bool := fun _ => false
def g__law_ratio : List D → M D := runD 2 b__law_ratio
theorem s__law_ratio : FnScope N__law_ratio ["pen", "most"] (defScope (top 42)) := ⟨by rfl, by rfl, by rfl, by decide, by rfl, by decide +kernel, by decide +kernel⟩
theorem h__law_ratio (c : Ctx K mg) : Has false P w K mg base 3 "_law_ratio" 2 g__law_ratio :=
  Has.of (k := 2) (g := b__law_ratio) (N := N__law_ratio) (ps := ["pen", "most"]) o__law_ratio (c.dk 42 "_law_ratio" (by decide)) s__law_ratio (by decide)
    (fun _ _ _ _ _ _ us h => match us, h with | [x0, x1], _ => rfl)
    fun f cdv A outer s H E S F bd => (dss_one (ds_ret (de_callH bd (h__law_q c) (da_cons (de_op2 od_sub (PE.db (de_callH bd (h__law_draw c) (da_cons (de_var 0 (by rfl)) (da_cons (de_op2 od_add (PE.db (de_op2 od_mul (PE.db de_int) (db_var 1))) (PE.db de_int)) da_nil)))) (db_var 1)) (da_cons (de_callH bd (h__law_pick c) (da_cons (de_var 0 (by rfl)) (da_cons (PE.de (dn_lst (da_cons de_int (da_cons de_int (da_cons de_int (da_cons de_int da_nil)))))) da_nil))) da_nil)))))
def b__law_given_row : MS := (sRet (gCall 2 g__law_passed (mCons (gVar 0) (mCons (gLc [2] (g1 seqD (gVar 1)) (.nm 2) gYes (gCall 2 g__law_handed (mCons (gVar 0) (mCons (gVar 2) mNil)))) mNil))))
def N__law_given_row : List Str := ["pen", "row", "item"]
def o__law_given_row : Nat → Bool := fun _ => false
def g__law_given_row : List D → M D := runD 3 b__law_given_row
theorem s__law_given_row : FnScope N__law_given_row ["pen", "row"] (defScope (top 44)) := ⟨by rfl, by rfl, by rfl, by decide, by rfl, by decide +kernel, by decide +kernel⟩
theorem h__law_given_row (c : Ctx K mg) : Has false P w K mg base 4 "_law_given_row" 2 g__law_given_row :=
  Has.of (k := 3) (g := b__law_given_row) (N := N__law_given_row) (ps := ["pen", "row"]) o__law_given_row (c.dk 44 "_law_given_row" (by decide)) s__law_given_row (by decide)
    (fun _ _ _ _ _ _ us h => match us, h with | [x0, x1], _ => rfl)
    fun f cdv A outer s H E S F bd => (dss_one (ds_ret (de_callH bd (h__law_passed c) (da_cons (de_var 0 (by rfl)) (da_cons (PE.de (dn_lc [("item", 2)] bd.hc s__law_given_row.nd (PI.e (di_seq (de_var 1 (by rfl)))) (blkOk_by (by rfl)) (show ∀ i ∈ ([2] : List Nat), o__law_given_row i = false by decide) (by decide) (fun s H C' cl fp => (pgt_nm (i := 2) s__law_given_row.nd)) (fun s H C' cl fp => dts_nil) (fun s H C' cl fp => (de_callH bd.blk (h__law_handed c) (da_cons (de_var 0 (by rfl)) (da_cons (de_var 2 (by rfl)) da_nil)))))) da_nil)))))
def b__law_sign : MS := (sRet (gIf (g1 boolD (g2 gtD (g2 ixD (gVar 0) (gC (.int 0))) (gC (.int 0)))) (gC (.int 1)) (gIf (g1 boolD (g2 ltD (g2 ixD (gVar 0) (gC (.int 0))) (gC (.int 0)))) (g1 negD (gC (.int 1))) (gC (.int 0)))))
def N__law_sign : List Str := ["ratio"]
def o__law_sign : Nat → Bool := fun _ => false
def g__law_sign : List D → M D := runD 1 b__law_sign
theorem s__law_sign : FnScope N__law_sign ["ratio"] (defScope (top 45)) := ⟨by rfl, by rfl, by rfl, by decide, by rfl, by decide +kernel, by decide +kernel⟩
theorem h__law_sign (c : Ctx K mg) : Has false P w K mg base 1 "_law_sign" 1 g__law_sign :=
  Has.of (k := 0) (g := b__law_sign) (N := N__law_sign) (ps := ["ratio"]) o__law_sign (c.dk 45 "_law_sign" (by decide)) s__law_sign (by decide)
    (fun _ _ _ _ _ _ us h => match us, h with | [x0], _ => rfl)
    fun f cdv A outer s H E S F bd => (dss_one (ds_ret (de_if (dt_cmp od_gt (PE.db (de_ix (db_var 0) (PE.db de_int))) (PE.db de_int) (nomark _)) de_int (de_if (dt_cmp od_lt (PE.db (de_ix (db_var 0) (PE.db de_int))) (PE.db de_int) (nomark _)) (de_un ud_neg (PE.db de_int)) de_int))))
def b__law_signed : MS := (sSeq (sSet 1 (mLst (mCons (mTup mNil) mNil))) (sSeq (sFor (.nm 2) (g1 seqD (gVar 0)) (sSeq (sPar 3 4 (gCall 1 g__law_sign (mCons (gVar 2) mNil)) (mLst mNil)) (sSeq (sFor (.nm 5) (g1 seqD (gIf (g1 boolD (g2 neD (gVar 3) (gC (.int 0)))) (mLst (mCons (gVar 3) mNil)) (mLst (mCons (gC (.int 1)) (mCons (g1 negD (gC (.int 1))) mNil))))) (sSet 4 (g2 addD (gVar 4) (gLc [6] (g1 seqD (gVar 1)) (.nm 6) gYes (g2 addD (gVar 6) (mTup (mCons (gVar 5) mNil))))))) (sSet 1 (gVar 4))))) (sRet (gVar 1))))
def N__law_signed : List Str := ["row", "found", "item", "sign", "more", "some", "one"]
def o__law_signed : Nat → Bool := fun _ => false
def g__law_signed : List D → M D := runD 7 b__law_signed
theorem s__law_signed : FnScope N__law_signed ["row"] (defScope (top 46)) := ⟨by rfl, by rfl, by rfl, by decide, by rfl, by decide +kernel, by decide +kernel⟩
theorem h__law_signed (c : Ctx K mg) : Has false P w K mg base 2 "_law_signed" 1 g__law_signed :=
  Has.of (k := 1) (g := b__law_signed) (N := N__law_signed) (ps := ["row"]) o__law_signed (c.dk 46 "_law_signed" (by decide)) s__law_signed (by decide)
    (fun _ _ _ _ _ _ us h => match us, h with | [x0], _ => rfl)
    fun f cdv A outer s H E S F bd => (dss_cons (ds_set 1 (by rfl) s__law_signed.nd (PE.de (dn_lst (da_cons (de_tup da_nil) da_nil)))) (dss_cons (ds_for bd.hp bd.hc (show ∀ i ∈ ([2] : List Nat), o__law_signed i = false by decide) (di_seq (de_var 0 (by rfl))) (pgt_nm (i := 2) s__law_signed.nd) (dss_cons (ds_par (i := 3) (j := 4) (by rfl) (by rfl) bd.hc s__law_signed.nd (de_callH bd (h__law_sign c) (da_cons (de_var 2 (by rfl)) da_nil)) (PE.de (dn_lst da_nil))) (dss_cons (ds_for bd.hp bd.hc (show ∀ i ∈ ([5] : List Nat), o__law_signed i = false by decide) (di_seq (de_if (dt_cmp (od_ne bd.u64) (db_var 3) (PE.db de_int) (nomark _)) (PE.de (dn_lst (da_cons (de_var 3 (by rfl)) da_nil))) (PE.de (dn_lst (da_cons de_int (da_cons (de_un ud_neg (PE.db de_int)) da_nil)))))) (pgt_nm (i := 5) s__law_signed.nd) (dss_one (ds_set 4 (by rfl) s__law_signed.nd (de_op2 od_add (db_var 4) (PE.db (PE.de (dn_lc [("one", 6)] bd.hc s__law_signed.nd (PI.e (di_seq (de_var 1 (by rfl)))) (blkOk_by (by rfl)) (show ∀ i ∈ ([6] : List Nat), o__law_signed i = false by decide) (by decide) (fun s H C' cl fp => (pgt_nm (i := 6) s__law_signed.nd)) (fun s H C' cl fp => dts_nil) (fun s H C' cl fp => (de_op2 od_add (db_var 6) (PE.db (de_tup (da_cons (de_var 5 (by rfl)) da_nil)))))))))))) (dss_one (ds_set 1 (by rfl) s__law_signed.nd (de_var 4 (by rfl))))))) (dss_one (ds_ret (de_var 1 (by rfl))))))
def b__law_sign_turns : MS := (sSeq (sSet 1 (gLc [2] (g1 seqD (gVar 0)) (.nm 2) (g1 boolD (g2 neD (gVar 2) (gC (.int 0)))) (gVar 2))) (sRet (g1 lenD (mCons (gLc [3] (g1 rng1D (mCons (g2 subD (g1 lenD (mCons (gVar 1) mNil)) (gC (.int 1))) mNil)) (.nm 3) (g1 boolD (g2 neD (g2 ixD (gVar 1) (gVar 3)) (g2 ixD (gVar 1) (g2 addD (gVar 3) (gC (.int 1)))))) (gVar 3)) mNil))))
def N__law_sign_turns : List Str := ["signs", "some", "sign", "k"]
def o__law_sign_turns : Nat → Bool := fun _ => false
def g__law_sign_turns : List D → M D := runD 4 b__law_sign_turns
theorem s__law_sign_turns : FnScope N__law_sign_turns ["signs"] (defScope (top 47)) := ⟨by rfl, by rfl, by rfl, by decide, by rfl, by decide +kernel, by decide +kernel⟩
theorem h__law_sign_turns (c : Ctx K mg) : Has false P w K mg base 1 "_law_sign_turns" 1 g__law_sign_turns :=
  Has.of (k := 0) (g := b__law_sign_turns) (N := N__law_sign_turns) (ps := ["signs"]) o__law_sign_turns (c.dk 47 "_law_sign_turns" (by decide)) s__law_sign_turns (by decide)
    (fun _ _ _ _ _ _ us h => match us, h with | [x0], _ => rfl)
    fun f cdv A outer s H E S F bd => (dss_cons (ds_set 1 (by rfl) s__law_sign_turns.nd (PE.de (dn_lc [("sign", 2)] bd.hc s__law_sign_turns.nd (PI.e (di_seq (de_var 0 (by rfl)))) (blkOk_by (by rfl)) (show ∀ i ∈ ([2] : List Nat), o__law_sign_turns i = false by decide) (by decide) (fun s H C' cl fp => (pgt_nm (i := 2) s__law_sign_turns.nd)) (fun s H C' cl fp => (dts_one (dt_cmp (od_ne bd.blk.u64) (db_var 2) (PE.db de_int) (nomark _)))) (fun s H C' cl fp => (de_var 2 (by rfl)))))) (dss_one (ds_ret (de_callB cd_len (c.free "len" (by decide)) rfl (dab_cons (PE.db (PE.de (dn_lc [("k", 3)] bd.hc s__law_sign_turns.nd (PI.e (di_range1 (c.free "range" (by decide)) (da_cons (de_op2 od_sub (PE.db (de_callB cd_len (c.free "len" (by decide)) rfl (dab_cons (db_var 1) dab_nil))) (PE.db de_int)) da_nil))) (blkOk_by (by rfl)) (show ∀ i ∈ ([3] : List Nat), o__law_sign_turns i = false by decide) (by decide) (fun s H C' cl fp => (pgt_nm (i := 3) s__law_sign_turns.nd)) (fun s H C' cl fp => (dts_one (dt_cmp (od_ne bd.blk.u64) (PE.db (de_ix (db_var 1) (db_var 3))) (PE.db (de_ix (db_var 1) (PE.db (de_op2 od_add (db_var 3) (PE.db de_int))))) (nomark _)))) (fun s H C' cl fp => (de_var 3 (by rfl)))))) dab_nil)))))
def b__law_case : MS := (sSeq (sSet 1 (g2 addD (gC (.int 1)) (gCall 2 g__law_draw (mCons (gVar 0) (mCons (gC (.int 6)) mNil))))) (sSeq (sSet 2 (g1 tupleD (mCons (gLc [3] (g1 rng1D (mCons (gVar 1) mNil)) (.nm 3) gYes (gIf (g1 boolD (g2 eqD (gCall 2 g__law_draw (mCons (gVar 0) (mCons (gC (.int 3)) mNil))) (gC (.int 0)))) (mTup (mCons (gC (.int 0)) (mCons (gC (.int 1)) mNil))) (gCall 2 g__law_ratio (mCons (gVar 0) (mCons (gC (.int 3)) mNil))))) mNil))) (sSeq (sPar 4 5 (gCall 2 g__law_given_row (mCons (gVar 0) (mCons (gVar 2) mNil))) (gLc [6] (g1 seqD (gVar 2)) (.nm 6) gYes (gCall 1 g__law_sign (mCons (gVar 6) mNil)))) (sSeq (sPar 7 8 (gCall 1 g__law_sign_turns (mCons (gVar 5) mNil)) (g1 maxD (mCons (gLc [9] (g1 seqD (gCall 1 g__law_signed (mCons (gVar 2) mNil))) (.nm 9) gYes (gCall 1 g__law_sign_turns (mCons (gVar 9) mNil))) mNil))) (sSeq (sSet 10 (g2 ixD (g2 addD (gLc [11] (g1 seqD (gVar 5)) (.nm 11) (g1 boolD (g2 neD (gVar 11) (gC (.int 0)))) (gVar 11)) (mLst (mCons (gC (.int 0)) mNil))) (gC (.int 0)))) (sSeq (sIf (g1 boolD (g2 neD (g1 reprD (mCons (mTup (mCons (gCall 1 g_least_changes (mCons (gVar 4) mNil)) (mCons (gCall 1 g_greatest_changes (mCons (gVar 4) mNil)) (mCons (gCall 1 g_first_sign (mCons (gVar 4) mNil)) mNil)))) mNil)) (g1 reprD (mCons (mTup (mCons (gVar 7) (mCons (gVar 8) (mCons (gVar 10) mNil)))) mNil)))) (sRet (gC (.bl false))) sNext) (sSeq (sSet 12 (gCall 2 g__law_pick (mCons (gVar 0) (mCons (mLst (mCons (mTup (mCons (gC (.int 3)) (mCons (gC (.int 1)) mNil))) (mCons (mTup (mCons (g1 negD (gC (.int 3))) (mCons (gC (.int 1)) mNil))) (mCons (mTup (mCons (gC (.int 1)) (mCons (gC (.int 2)) mNil))) (mCons (mTup (mCons (g1 negD (gC (.int 2))) (mCons (gC (.int 3)) mNil))) mNil))))) mNil)))) (sSeq (sSet 13 (g1 tupleD (mCons (gLc [6] (g1 seqD (gVar 2)) (.nm 6) gYes (gCall 2 g__law_times (mCons (gVar 12) (mCons (gVar 6) mNil)))) mNil))) (sSeq (sIf (g1 boolD (g2 neD (mTup (mCons (gCall 1 g_least_changes (mCons (gVar 13) mNil)) (mCons (gCall 1 g_greatest_changes (mCons (gVar 13) mNil)) (mCons (gCall 1 g_first_sign (mCons (gVar 13) mNil)) mNil)))) (mTup (mCons (gVar 7) (mCons (gVar 8) (mCons (g2 mulD (gVar 10) (gCall 1 g__law_sign (mCons (gVar 12) mNil))) mNil)))))) (sRet (gC (.bl false))) sNext) (sSeq (sIf (gOr (g1 boolD (g2 neD (gCall 1 g_least_changes (mCons (g1 revD (gVar 2)) mNil)) (gVar 7))) (gOr (g1 boolD (g2 neD (gCall 1 g_greatest_changes (mCons (g1 revD (gVar 2)) mNil)) (gVar 8))) (gOr (g1 boolD (g2 gtD (gVar 7) (gVar 8))) (g1 boolD (g2 notInD (g2 modD (g1 intD (mCons (g2 subD (gVar 8) (gVar 7)) mNil)) (gC (.int 2))) (mTup (mCons (gC (.int 0)) (mCons (gC (.int 1)) mNil)))))))) (sRet (gC (.bl false))) sNext) (sSeq (sSet 14 (g1 tupleD (mCons (gLc [3, 6] (g1 enumTD (mCons (gVar 2) mNil)) (.tp [3, 6]) gYes (gIf (g1 boolD (g2 eqD (g2 modD (g1 intD (mCons (gVar 3) mNil)) (gC (.int 2))) (gC (.int 0)))) (gVar 6) (mTup (mCons (g1 negD (g2 ixD (gVar 6) (gC (.int 0)))) (mCons (g2 ixD (gVar 6) (gC (.int 1))) mNil))))) mNil))) (sRet (gOrV (g2 eqD (gVar 10) (gC (.int 0))) (g2 eqD (g2 addD (gCall 1 g_least_changes (mCons (gVar 14) mNil)) (gVar 8)) (g2 subD (gVar 1) (gC (.int 1)))))))))))))))))
def N__law_case : List Str := ["pen", "many", "row", "k", "handed", "signs", "item", "low", "high", "some", "first", "sign", "by", "led", "chess"]
def o__law_case : Nat → Bool := fun _ => false
def g__law_case : List D → M D := runD 15 b__law_case
theorem s__law_case : FnScope N__law_case ["pen"] (defScope (top 48)) := ⟨by rfl, by rfl, by rfl, by decide, by rfl, by decide +kernel, by decide +kernel⟩
theorem h__law_case (c : Ctx K mg) : Has true P w K mg base 11 "_law_case" 1 g__law_case :=
  Has.of (k := 10) (g := b__law_case) (N := N__law_case) (ps := ["pen"]) o__law_case (c.dk 48 "_law_case" (by decide)) s__law_case (by decide)
    (fun _ _ _ _ _ _ us h => match us, h with | [x0], _ => rfl)
    fun f cdv A outer s H E S F bd => (dss_cons (ds_set 1 (by rfl) s__law_case.nd (de_op2 od_add (PE.db de_int) (PE.db (de_callH bd (h__law_draw c) (da_cons (de_var 0 (by rfl)) (da_cons de_int da_nil)))))) (dss_cons (ds_set 2 (by rfl) s__law_case.nd (de_callTy cd_tuple (c.free "tuple" (by decide)) rfl (dab_cons (PE.db (PE.de (dn_lc [("k", 3)] bd.hc s__law_case.nd (PI.e (di_range1 (c.free "range" (by decide)) (da_cons (de_var 1 (by rfl)) da_nil))) (blkOk_by (by rfl)) (show ∀ i ∈ ([3] : List Nat), o__law_case i = false by decide) (by decide) (fun s H C' cl fp => (pgt_nm (i := 3) s__law_case.nd)) (fun s H C' cl fp => dts_nil) (fun s H C' cl fp => (de_if (dt_cmp (od_eq bd.blk.u64) (PE.db (de_callH bd.blk (h__law_draw c) (da_cons (de_var 0 (by rfl)) (da_cons de_int da_nil)))) (PE.db de_int) (nomark _)) (de_tup (da_cons de_int (da_cons de_int da_nil))) (de_callH bd.blk (h__law_ratio c) (da_cons (de_var 0 (by rfl)) (da_cons de_int da_nil)))))))) dab_nil))) (dss_cons (ds_par (i := 4) (j := 5) (by rfl) (by rfl) bd.hc s__law_case.nd (de_callH bd (h__law_given_row c) (da_cons (de_var 0 (by rfl)) (da_cons (de_var 2 (by rfl)) da_nil))) (PE.de (dn_lc [("item", 6)] bd.hc s__law_case.nd (PI.e (di_seq (de_var 2 (by rfl)))) (blkOk_by (by rfl)) (show ∀ i ∈ ([6] : List Nat), o__law_case i = false by decide) (by decide) (fun s H C' cl fp => (pgt_nm (i := 6) s__law_case.nd)) (fun s H C' cl fp => dts_nil) (fun s H C' cl fp => (de_callH bd.blk (h__law_sign c) (da_cons (de_var 6 (by rfl)) da_nil)))))) (dss_cons (ds_par (i := 7) (j := 8) (by rfl) (by rfl) bd.hc s__law_case.nd (de_callH bd (h__law_sign_turns c) (da_cons (de_var 5 (by rfl)) da_nil)) (de_callB (cd_max bd.hc) (c.free "max" (by decide)) rfl (dab_cons (PE.db (PE.de (dn_lc [("some", 9)] bd.hc s__law_case.nd (PI.e (di_seq (de_callH bd (h__law_signed c) (da_cons (de_var 2 (by rfl)) da_nil)))) (blkOk_by (by rfl)) (show ∀ i ∈ ([9] : List Nat), o__law_case i = false by decide) (by decide) (fun s H C' cl fp => (pgt_nm (i := 9) s__law_case.nd)) (fun s H C' cl fp => dts_nil) (fun s H C' cl fp => (de_callH bd.blk (h__law_sign_turns c) (da_cons (de_var 9 (by rfl)) da_nil)))))) dab_nil))) (dss_cons (ds_set 10 (by rfl) s__law_case.nd (de_ix (PE.db (de_op2 od_add (PE.db (PE.de (dn_lc [("sign", 11)] bd.hc s__law_case.nd (PI.e (di_seq (de_var 5 (by rfl)))) (blkOk_by (by rfl)) (show ∀ i ∈ ([11] : List Nat), o__law_case i = false by decide) (by decide) (fun s H C' cl fp => (pgt_nm (i := 11) s__law_case.nd)) (fun s H C' cl fp => (dts_one (dt_cmp (od_ne bd.blk.u64) (db_var 11) (PE.db de_int) (nomark _)))) (fun s H C' cl fp => (de_var 11 (by rfl)))))) (PE.db (PE.de (dn_lst (da_cons de_int da_nil)))))) (PE.db de_int))) (dss_cons (ds_if (dt_cmp (od_ne bd.u64) (PE.db (de_callB (cd_repr (bd.gd rfl) bd.u66) (c.free "repr" (by decide)) rfl (dab_cons (PE.db (de_tup (da_cons (de_callH bd (h_least_changes c) (da_cons (de_var 4 (by rfl)) da_nil)) (da_cons (de_callH bd (h_greatest_changes c) (da_cons (de_var 4 (by rfl)) da_nil)) (da_cons (de_callH bd (h_first_sign c) (da_cons (de_var 4 (by rfl)) da_nil)) da_nil))))) dab_nil))) (PE.db (de_callB (cd_repr (bd.gd rfl) bd.u66) (c.free "repr" (by decide)) rfl (dab_cons (PE.db (de_tup (da_cons (de_var 7 (by rfl)) (da_cons (de_var 8 (by rfl)) (da_cons (de_var 10 (by rfl)) da_nil))))) dab_nil))) (nomark _)) (dss_one (ds_ret de_bl)) dss_nil) (dss_cons (ds_set 12 (by rfl) s__law_case.nd (de_callH bd (h__law_pick c) (da_cons (de_var 0 (by rfl)) (da_cons (PE.de (dn_lst (da_cons (de_tup (da_cons de_int (da_cons de_int da_nil))) (da_cons (de_tup (da_cons (de_un ud_neg (PE.db de_int)) (da_cons de_int da_nil))) (da_cons (de_tup (da_cons de_int (da_cons de_int da_nil))) (da_cons (de_tup (da_cons (de_un ud_neg (PE.db de_int)) (da_cons de_int da_nil))) da_nil)))))) da_nil)))) (dss_cons (ds_set 13 (by rfl) s__law_case.nd (de_callTy cd_tuple (c.free "tuple" (by decide)) rfl (dab_cons (PE.db (PE.de (dn_lc [("item", 6)] bd.hc s__law_case.nd (PI.e (di_seq (de_var 2 (by rfl)))) (blkOk_by (by rfl)) (show ∀ i ∈ ([6] : List Nat), o__law_case i = false by decide) (by decide) (fun s H C' cl fp => (pgt_nm (i := 6) s__law_case.nd)) (fun s H C' cl fp => dts_nil) (fun s H C' cl fp => (de_callH bd.blk (h__law_times c) (da_cons (de_var 12 (by rfl)) (da_cons (de_var 6 (by rfl)) da_nil))))))) dab_nil))) (dss_cons (ds_if (dt_cmp (od_ne bd.u64) (PE.db (de_tup (da_cons (de_callH bd (h_least_changes c) (da_cons (de_var 13 (by rfl)) da_nil)) (da_cons (de_callH bd (h_greatest_changes c) (da_cons (de_var 13 (by rfl)) da_nil)) (da_cons (de_callH bd (h_first_sign c) (da_cons (de_var 13 (by rfl)) da_nil)) da_nil))))) (PE.db (de_tup (da_cons (de_var 7 (by rfl)) (da_cons (de_var 8 (by rfl)) (da_cons (de_op2 od_mul (db_var 10) (PE.db (de_callH bd (h__law_sign c) (da_cons (de_var 12 (by rfl)) da_nil)))) da_nil))))) (nomark _)) (dss_one (ds_ret de_bl)) dss_nil) (dss_cons (ds_if (PW.pt (dw_or (dt_cmp (od_ne bd.u64) (PE.db (de_callH bd (h_least_changes c) (da_cons (de_rev (db_var 2)) da_nil))) (db_var 7) (nomark _)) (dw_or (dt_cmp (od_ne bd.u64) (PE.db (de_callH bd (h_greatest_changes c) (da_cons (de_rev (db_var 2)) da_nil))) (db_var 8) (nomark _)) (dw_or (dt_cmp od_gt (db_var 7) (db_var 8) (nomark _)) (dw_or1 (dt_cmp od_notIn (PE.db (de_op2 od_mod (PE.db (de_callTy cd_int (c.free "int" (by decide)) rfl (dab_cons (PE.db (de_op2 od_sub (db_var 8) (db_var 7))) dab_nil))) (PE.db de_int))) (PE.db (de_tup (da_cons de_int (da_cons de_int da_nil)))) (by with_unfolding_all rfl))))))) (dss_one (ds_ret de_bl)) dss_nil) (dss_cons (ds_set 14 (by rfl) s__law_case.nd (de_callTy cd_tuple (c.free "tuple" (by decide)) rfl (dab_cons (PE.db (PE.de (dn_lc [("k", 3), ("item", 6)] bd.hc s__law_case.nd (PI.e (di_enumT (c.free "enumerate" (by decide)) (da_cons (de_var 2 (by rfl)) da_nil))) (blkOk_by (by rfl)) (show ∀ i ∈ ([3, 6] : List Nat), o__law_case i = false by decide) (by decide) (fun s H C' cl fp => (pgt_tp (is := [3, 6]) bd.hc (pgs_n (pgt_nm (i := 3) s__law_case.nd) (pgs_n (pgt_nm (i := 6) s__law_case.nd) pgs_0)))) (fun s H C' cl fp => dts_nil) (fun s H C' cl fp => (de_if (dt_cmp (od_eq bd.blk.u64) (PE.db (de_op2 od_mod (PE.db (de_callTy cd_int (c.free "int" (by decide)) rfl (dab_cons (db_var 3) dab_nil))) (PE.db de_int))) (PE.db de_int) (nomark _)) (de_var 6 (by rfl)) (de_tup (da_cons (de_un ud_neg (PE.db (de_ix (db_var 6) (PE.db de_int)))) (da_cons (de_ix (db_var 6) (PE.db de_int)) da_nil)))))))) dab_nil))) (dss_one (ds_ret (de_or (de_cmp (od_eq bd.u64) (db_var 10) (PE.db de_int) (nomark _)) (de_one (de_cmp (od_eq bd.u64) (PE.db (de_op2 od_add (PE.db (de_callH bd (h_least_changes c) (da_cons (de_var 14 (by rfl)) da_nil))) (db_var 8))) (PE.db (de_op2 od_sub (db_var 1) (PE.db de_int))) (nomark _)))))))))))))))))
end
end K63
namespace Dl
open PySem PySem.Spec PyProof.Rows L2
/-! ### how the terms come out -/
section
variable {α β γ δ : Type} {ρ : DEnv} {q : PenS}
@[simp] theorem e_g1 (f : α → Option β) (a : DEnv → M α) : g1 f a ρ q = (a ρ q).bd fun x => lift (f x) := rfl
@[simp] theorem e_g2 (f : α → β → Option γ) (a : DEnv → M α) (b : DEnv → M β) : g2 f a b ρ q = (a ρ q).bd fun x q' => (b ρ q').bd fun y => lift (f x y) := rfl
@[simp] theorem e_g3 (f : α → β → γ → Option δ) (a : DEnv → M α) (b : DEnv → M β) (c : DEnv → M γ) : g3 f a b c ρ q = (a ρ q).bd fun x q' => (b ρ q').bd fun y q'' => (c ρ q'').bd fun z => lift (f x y z) := rfl
@[simp] theorem e_gC (d : D) : gC d ρ q = .ok d q := rfl
@[simp] theorem e_mNil : mNil ρ q = .ok [] q := rfl
@[simp] theorem e_mCons (a : DEnv → M D) (r : DEnv → M (List D)) : mCons a r ρ q = (a ρ q).bd fun x q' => (r ρ q').bd fun xs q'' => .ok (x :: xs) q'' := rfl
@[simp] theorem e_gCall (n : Nat) (f : List D → M D) (as : DEnv → M (List D)) : gCall n f as ρ q = (as ρ q).bd fun ds => if ds.length = n then f ds else lift none := rfl
@[simp] theorem e_mTup (as : DEnv → M (List D)) : mTup as ρ q = (as ρ q).bd fun ds => lift (if ds.length ≤ 100000 then some (D.tup ds) else none) := rfl
@[simp] theorem e_mLst (as : DEnv → M (List D)) : mLst as ρ q = (as ρ q).bd fun ds => lift (if ds.length ≤ 100000 then some (D.lst ds) else none) := rfl
@[simp] theorem e_gIf (t : DEnv → M Bool) (a b : DEnv → M α) : gIf t a b ρ q = (t ρ q).bd fun c q' => if c = true then a ρ q' else b ρ q' := by
  show (t ρ q).bd _ = _
  congr 1
  funext c q'
  cases c <;> rfl
@[simp] theorem e_gAnd (t u : DEnv → M Bool) : gAnd t u ρ q = (t ρ q).bd fun c q' => if c = true then u ρ q' else .ok false q' := e_gIf ..
@[simp] theorem e_gOr (t u : DEnv → M Bool) : gOr t u ρ q = (t ρ q).bd fun c q' => if c = true then .ok true q' else u ρ q' := e_gIf ..
@[simp] theorem e_gNot (t : DEnv → M Bool) : gNot t ρ q = (t ρ q).bd fun c q' => .ok (!c) q' := rfl
@[simp] theorem e_gAndV (a b : DEnv → M D) : gAndV a b ρ q = (a ρ q).bd fun x q' => (lift (truD x) q').bd fun k q'' => if k = true then b ρ q'' else .ok x q'' := by
  show (a ρ q).bd _ = _
  congr 1
  funext x q'
  show (lift (truD x) q').bd _ = _
  congr 1
  funext k q''
  cases k <;> rfl
@[simp] theorem e_gOrV (a b : DEnv → M D) : gOrV a b ρ q = (a ρ q).bd fun x q' => (lift (truD x) q').bd fun k q'' => if k = true then .ok x q'' else b ρ q'' := by
  show (a ρ q).bd _ = _
  congr 1
  funext x q'
  show (lift (truD x) q').bd _ = _
  congr 1
  funext k q''
  cases k <;> rfl
@[simp] theorem e_gNotV (a : DEnv → M D) : gNotV a ρ q = (a ρ q).bd fun x => lift ((truD x).map fun k => D.bl (!k)) := rfl
@[simp] theorem e_gYes : gYes ρ q = .ok true q := rfl
@[simp] theorem e_gNo : gNo ρ q = .ok none q := rfl
@[simp] theorem e_sNext : sNext ρ q = .nx ρ q := rfl
@[simp] theorem e_sBrk : sBrk ρ q = .bk ρ q := rfl
@[simp] theorem e_sSeq (a b : MS) : sSeq a b ρ q = (a ρ q).sq b := rfl
@[simp] theorem e_sSet (i : Nat) (g : DEnv → M D) : sSet i g ρ q = (g ρ q).st fun d q1 => .nx (ρ.set i (some d)) q1 := rfl
@[simp] theorem e_sRet (g : DEnv → M D) : sRet g ρ q = (g ρ q).st fun d q1 => .rt d q1 := rfl
@[simp] theorem e_sIf (t : DEnv → M Bool) (a b : MS) : sIf t a b ρ q = (t ρ q).st fun c q1 => if c = true then a ρ q1 else b ρ q1 := rfl
@[simp] theorem e_sExpr (g : DEnv → M D) : sExpr g ρ q = (g ρ q).st fun _ q1 => .nx ρ q1 := rfl
@[simp] theorem e_sPar (i j : Nat) (g h : DEnv → M D) : sPar i j g h ρ q = (g ρ q).st fun d q1 => (h ρ q1).st fun e q2 => .nx ((ρ.set i (some d)).set j (some e)) q2 := rfl
@[simp] theorem e_sFor (t : Tg) (gi : DEnv → M (List D)) (b : MS) : sFor t gi b ρ q = (gi ρ q).st fun xs q1 => forL t b xs ρ q1 := rfl
@[simp] theorem e_sRaise (c : Str) (ns : List Str) (gs : DEnv → M (List D)) : sRaise c ns gs ρ q = (gs ρ q).st fun ds q1 => if ds.length = ns.length then .exc c (ns.zip ds).reverse q1 else .bad := rfl
@[simp] theorem e_gLc (vs : List Nat) (gi : DEnv → M (List D)) (t : Tg) (test : DEnv → M Bool) (elt : DEnv → M D) : gLc vs gi t test elt ρ q = (gi ρ q).bd fun xs q' => (lcM t test elt (wipeD ρ vs) xs q').bd fun r q'' => if r.length ≤ 100000 then .ok (.lst r) q'' else .bad := by
  show (gi ρ q).bd _ = _
  congr 1
  funext xs q'
  show (lcM t test elt (wipeD ρ vs) xs q').bd _ = _
  congr 1
  funext r q''
  by_cases h : r.length ≤ 100000
  · rw [if_pos h, if_pos h]; rfl
  · rw [if_neg h, if_neg h]; rfl
/-- what a def comes to -/
def Rs.fn (r : Rs) : Rz D := match r with
  | .nx _ q1 => .ok .non q1
  | .rt d q1 => .ok d q1
  | .exc c fs q1 => .exc c fs q1
  | _ => .bad
@[simp] theorem fn_rt (d : D) : (Rs.rt d q).fn = .ok d q := rfl
@[simp] theorem fn_nx : (Rs.nx ρ q).fn = .ok .non q := rfl
@[simp] theorem fn_exc (c : Str) (fs : List (Str × D)) : (Rs.exc c fs q).fn = .exc c fs q := rfl
theorem run_eq (n : Nat) (b : MS) (ds : List D) : runD n b ds q = (b (startD n ds) q).fn := rfl
end
/-! ### the pen -/
structure PenInv (q : PenS) : Prop where
  at_ : 0 ≤ q.at_
  dg : 0 ≤ q.digits
  ct : 0 ≤ q.count
  f0 : 0 ≤ q.fold
  f1 : q.fold < 2147483648
theorem shaped_int (i : Int) : SeqAt.shaped (.int i) = true := by simp [SeqAt.shaped, PyData.canLay0, PyData.depth]
theorem eqv_int (i j : Int) : PyData.eqv (.int i) (.int j) = decide (i = j) := by
  simp only [PyData.eqv]
  by_cases h : i = j <;> simp [h]
@[simp] theorem eqD_int (i j : Int) : eqD (.int i) (.int j) = some (.bl (decide (i = j))) := by
  show (if SeqAt.shaped (.int i) = true ∧ SeqAt.shaped (.int j) = true then some (D.bl (PyData.eqv (.int i) (.int j))) else none) = _
  rw [if_pos ⟨shaped_int i, shaped_int j⟩, eqv_int]
@[simp] theorem neD_int (i j : Int) : neD (.int i) (.int j) = some (.bl (!decide (i = j))) := by
  show (if SeqAt.shaped (.int i) = true ∧ SeqAt.shaped (.int j) = true then some (D.bl (!PyData.eqv (.int i) (.int j))) else none) = _
  rw [if_pos ⟨shaped_int i, shaped_int j⟩, eqv_int]
theorem log_lt {i : Int} {k : Nat} (h : i.natAbs < 2 ^ k) (hk : 0 < k) : i.natAbs.log2 < k := by
  by_cases h0 : i.natAbs = 0
  · rw [h0]; simpa using hk
  · exact (Nat.log2_lt h0).mpr h
theorem mulD_int {i j : Int} (a b : Nat) (hi : i.natAbs < 2 ^ a) (hj : j.natAbs < 2 ^ b) (ha : 0 < a := by decide) (hb : 0 < b := by decide) (h : a + b ≤ 1000000 := by decide) : mulD (.int i) (.int j) = some (.int (i * j)) := by
  have h1 := log_lt hi ha
  have h2 := log_lt hj hb
  exact if_pos (by omega)
theorem atI_get {α : Type} {xs : List α} {i : Int} {x : α} (h0 : 0 ≤ i) (h : xs[i.toNat]? = some x) : atI xs i = some x := by
  have hlt : i.toNat < xs.length := (List.getElem?_eq_some_iff.mp h).1
  unfold atI ixN
  rw [if_pos h0, if_pos (by omega)]
  exact h
theorem atI_nat {α : Type} {xs : List α} {i : Nat} {x : α} (h : xs[i]? = some x) : atI xs (i : Int) = some x := atI_get (by omega) (by simpa using h)
@[simp] theorem ixD_tup (xs : List D) (i : Int) : ixD (.tup xs) (.int i) = atI xs i := rfl
@[simp] theorem ixD_lst (xs : List D) (i : Int) : ixD (.lst xs) (.int i) = atI xs i := rfl
@[simp] theorem boolD_bl (b : Bool) : boolD (.bl b) = some b := rfl
@[simp] theorem truD_bl (b : Bool) : truD (.bl b) = some b := rfl
@[simp] theorem intD_int (i : Int) : Dl.intD [.int i] = some (.int i) := rfl
@[simp] theorem lenD_tup (xs : List D) : lenD [.tup xs] = some (.int xs.length) := rfl
@[simp] theorem lenD_lst (xs : List D) : lenD [.lst xs] = some (.int xs.length) := rfl
@[simp] theorem addD_int (i j : Int) : addD (.int i) (.int j) = some (.int (i + j)) := rfl
@[simp] theorem subD_int (i j : Int) : subD (.int i) (.int j) = some (.int (i - j)) := rfl
@[simp] theorem negD_int (i : Int) : negD (.int i) = some (.int (-i)) := rfl
@[simp] theorem ltD_int (i j : Int) : ltD (.int i) (.int j) = some (.bl (decide (i < j))) := rfl
@[simp] theorem leD_int (i j : Int) : leD (.int i) (.int j) = some (.bl (decide (i ≤ j))) := rfl
@[simp] theorem gtD_int (i j : Int) : gtD (.int i) (.int j) = some (.bl (decide (j < i))) := rfl
@[simp] theorem geD_int (i j : Int) : geD (.int i) (.int j) = some (.bl (decide (j ≤ i))) := rfl
theorem modD_int {i j : Int} (h : j ≠ 0) : modD (.int i) (.int j) = some (.int (i.fmod j)) := if_pos h
theorem fdivD_int {i j : Int} (h : j ≠ 0) (h2 : j.natAbs < 1073741824) : fdivD (.int i) (.int j) = some (.int (i.fdiv j)) := if_pos ⟨h, h2⟩
theorem powD_int {i j : Int} (h : 0 ≤ j) (h2 : j ≤ 1000000) (h3 : i.natAbs < 2 ^ 64) : powD (.int i) (.int j) = some (.int (i ^ j.toNat)) := if_pos ⟨h, h2, h3⟩
end Dl
namespace K63
open PySem PySem.Spec PyProof.Rows L2 Dl
theorem draw_mid {many : Int} {q : PenS} (I : PenInv q) : ∃ z q1, (sIf (gAnd (g1 boolD (g2 eqD (gPen 0 PF.digits) (gC (D.int 0)))) (g1 boolD (g2 ltD (gPen 0 PF.at_) (g1 lenD (mCons (gCel 0) mNil)))))
                (sSeq (sSet 2 (g2 ixD (gCel 0) (gPen 0 PF.at_))) (sSeq (sPen 0 PF.at_ (g2 addD (gPen 0 PF.at_) (gC (D.int 1)))) (sIf (g1 boolD (g2 geD (gVar 2) (g2 powD (gC (D.int 10)) (gC (D.int 18)))))
                      (sPen 0 PF.digits (g2 subD (gVar 2) (g2 powD (gC (D.int 10)) (gC (D.int 18))))) (sPen 0 PF.fold (g2 modD (g1 Dl.intD (mCons (g2 addD (g2 mulD (gPen 0 PF.fold) (gC (D.int 30727))) (gVar 2)) mNil)) (gC (D.int 2147483179)))))))
                sNext [some D.pen, some (D.int many), none, none, none] q) = .nx [some D.pen, some (D.int many), z, none, none] q1 ∧ PenInv q1 ∧ q1.count = q.count := by
  obtain ⟨cells, at_, digits, count, fold⟩ := q
  obtain ⟨i1, i2, i3, i4, i5⟩ := I
  dsimp only at *
  by_cases h1 : digits = 0
  · by_cases h2 : at_ < (cells.length : Int)
    · have hlt : at_.toNat < cells.length := by omega
      have hix : atI (cells.map D.int) at_ = some (.int cells[at_.toNat]) := atI_get i1 (by rw [List.getElem?_map, List.getElem?_eq_getElem hlt]; rfl)
      have hp : powD (.int 10) (.int 18) = some (.int 1000000000000000000) := powD_int (by decide) (by decide) (by decide)
      have hm : mulD (.int fold) (.int 30727) = some (.int (fold * 30727)) := mulD_int 40 20 (by omega) (by decide)
      have hd : ∀ x : Int, modD (.int x) (.int 2147483179) = some (.int (x.fmod 2147483179)) := fun x => modD_int (by decide)
      by_cases h3 : (1000000000000000000 : Int) ≤ cells[at_.toNat]
      · refine ⟨some (.int cells[at_.toNat]), { cells := cells, at_ := at_ + 1, digits := cells[at_.toNat] - 1000000000000000000, count := count, fold := fold }, by simp [gPen, gCel, PF.get, h1, h2, hix, sPen, PF.put, gVar, hp, h3], ⟨by dsimp only; omega, by dsimp only; omega, i3, i4, i5⟩, rfl⟩
      · refine ⟨some (.int cells[at_.toNat]), { cells := cells, at_ := at_ + 1, digits := 0, count := count, fold := (fold * 30727 + cells[at_.toNat]).fmod 2147483179 }, by simp [gPen, gCel, PF.get, h1, h2, hix, sPen, PF.put, gVar, hp, h3, hm, hd], ⟨by dsimp only; omega, by dsimp only; omega, i3, Int.fmod_nonneg_of_pos _ (by decide), ?_⟩, rfl⟩
        have := Int.fmod_lt_of_pos (fold * 30727 + cells[at_.toNat]) (b := 2147483179) (by decide)
        dsimp only
        omega
    · exact ⟨none, { cells := cells, at_ := at_, digits := digits, count := count, fold := fold }, by simp [gPen, gCel, PF.get, h1, h2], ⟨i1, i2, i3, i4, i5⟩, rfl⟩
  · exact ⟨none, { cells := cells, at_ := at_, digits := digits, count := count, fold := fold }, by simp [gPen, gCel, PF.get, h1], ⟨i1, i2, i3, i4, i5⟩, rfl⟩
theorem draw_ok {many : Int} (h0 : 0 < many) (h1 : many < 1000000) {q : PenS} (I : PenInv q) (hc : q.count < 1000000000000) : ∃ d q', g__law_draw [.pen, .int many] q = .ok (.int d) q' ∧ PenInv q' ∧ q'.count = q.count + 1 ∧ 0 ≤ d ∧ d < many := by
  obtain ⟨cells, at_, digits, count, fold⟩ := q
  obtain ⟨i1, i2, i3, i4, i5⟩ := I
  dsimp only at *
  obtain ⟨z, q1, e1, I1, c1⟩ := draw_mid (many := many) (q := { cells := cells, at_ := at_, digits := digits, count := count + 1, fold := fold }) ⟨i1, i2, by dsimp only; omega, i4, i5⟩
  obtain ⟨cells1, at1, digits1, count1, fold1⟩ := q1
  obtain ⟨j1, j2, j3, j4, j5⟩ := I1
  dsimp only at *
  have hne : many ≠ 0 := by omega
  have run : g__law_draw [.pen, .int many] { cells := cells, at_ := at_, digits := digits, count := count, fold := fold } = (b__law_draw [some .pen, some (.int many), none, none, none] { cells := cells, at_ := at_, digits := digits, count := count, fold := fold }).fn := rfl
  rw [run]
  unfold b__law_draw
  simp only [e_sSeq, sPen, e_g2, gPen, List.getElem?_cons_zero, PF.get, bd_ok, e_gC, addD_int, lift_some, st_ok, PF.put, sq_nx, e1]
  by_cases h3 : 0 < digits1
  · have f1 : modD (.int digits1) (.int many) = some (.int (digits1.fmod many)) := modD_int hne
    have f2 : fdivD (.int digits1) (.int many) = some (.int (digits1.fdiv many)) := fdivD_int hne (by omega)
    refine ⟨digits1.fmod many, { cells := cells1, at_ := at1, digits := digits1.fdiv many, count := count1, fold := fold1 }, by simp [gPen, PF.get, h3, gVar, f1, f2, sPen, PF.put], ⟨j1, ?_, j3, j4, j5⟩, c1, Int.fmod_nonneg_of_pos _ h0, Int.fmod_lt_of_pos _ h0⟩
    dsimp only
    rw [Int.fdiv_eq_ediv_of_nonneg _ (by omega)]
    exact Int.ediv_nonneg j2 (by omega)
  · have f0 : mulD (.int count1) (.int 6421) = some (.int (count1 * 6421)) := mulD_int 60 20 (by omega) (by decide)
    have f1 : powD (.int (fold1 + count1 * 6421 + 131)) (.int 47) = some (.int ((fold1 + count1 * 6421 + 131) ^ 47)) := powD_int (by decide) (by decide) (by omega)
    have f2 : ∀ x : Int, modD (.int x) (.int 2305843009213693951) = some (.int (x.fmod 2305843009213693951)) := fun x => modD_int (by decide)
    have f3 : ∀ x : Int, fdivD (.int x) (.int 512) = some (.int (x.fdiv 512)) := fun x => fdivD_int (by decide) (by decide)
    have f4 : ∀ x : Int, modD (.int x) (.int many) = some (.int (x.fmod many)) := fun x => modD_int hne
    exact ⟨_, { cells := cells1, at_ := at1, digits := digits1, count := count1, fold := fold1 }, by simp [gPen, PF.get, h3, gVar, f0, f1, f2, f3, f4]; rfl, ⟨j1, j2, j3, j4, j5⟩, c1, Int.fmod_nonneg_of_pos _ h0, Int.fmod_lt_of_pos _ h0⟩
end K63
namespace Dl
open PySem PySem.Spec PyProof.Rows L2
/-! ### comprehensions without a draw -/
theorem lcM_pure {t : Tg} {test : DEnv → M Bool} {elt : DEnv → M D} {ρ : DEnv} {q : PenS} {p : D → Bool} {f : D → D} : ∀ {xs : List D}, (∀ x ∈ xs, ∃ ρ1, tgD t x ρ = some ρ1 ∧ test ρ1 q = .ok (p x) q ∧ (p x = true → elt ρ1 q = .ok (f x) q)) → lcM t test elt ρ xs q = .ok ((xs.filter p).map f) q
  | [], _ => rfl
  | x :: xs, h => by
    obtain ⟨ρ1, h1, h2, h3⟩ := h x (List.mem_cons_self ..)
    have ih := lcM_pure (xs := xs) fun y hy => h y (List.mem_cons_of_mem _ hy)
    unfold lcM
    rw [h1]
    show (noX (test ρ1) q).bd _ = _
    have e1 : noX (test ρ1) q = .ok (p x) q := by unfold noX; rw [h2]
    rw [e1]
    show (if p x = true then noX (elt ρ1) >>= fun y => lcM t test elt ρ xs >>= fun r => lift (some (y :: r)) else lcM t test elt ρ xs) q = _
    cases hp : p x with
    | false =>
      rw [if_neg Bool.false_ne_true, ih, List.filter_cons_of_neg (by rw [hp]; decide)]
    | true =>
      rw [if_pos rfl, List.filter_cons_of_pos hp, List.map_cons]
      show (noX (elt ρ1) q).bd _ = _
      have e2 : noX (elt ρ1) q = .ok (f x) q := by unfold noX; rw [h3 hp]
      rw [e2]
      show (lcM t test elt ρ xs q).bd _ = _
      rw [ih]
      rfl
theorem lcM_map {t : Tg} {elt : DEnv → M D} {ρ : DEnv} {q : PenS} {f : D → D} {xs : List D} (h : ∀ x ∈ xs, ∃ ρ1, tgD t x ρ = some ρ1 ∧ elt ρ1 q = .ok (f x) q) : lcM t gYes elt ρ xs q = .ok (xs.map f) q := by
  have := lcM_pure (t := t) (test := gYes) (elt := elt) (ρ := ρ) (q := q) (p := fun _ => true) (f := f) (xs := xs) fun x hx => by
    obtain ⟨ρ1, h1, h2⟩ := h x hx
    exact ⟨ρ1, h1, rfl, fun _ => h2⟩
  rw [this, List.filter_eq_self.mpr (fun _ _ => rfl)]
@[simp] theorem e_wipe0 (ρ : DEnv) : wipeD ρ [] = ρ := rfl
@[simp] theorem e_wipe1 (ρ : DEnv) (v : Nat) (vs : List Nat) : wipeD ρ (v :: vs) = (wipeD ρ vs).set v none := rfl
@[simp] theorem seqD_tup (xs : List D) : seqD (.tup xs) = some xs := rfl
@[simp] theorem seqD_lst (xs : List D) : seqD (.lst xs) = some xs := rfl
@[simp] theorem tupleD_lst (xs : List D) : tupleD [.lst xs] = some (.tup xs) := rfl
@[simp] theorem tupleD_tup (xs : List D) : tupleD [.tup xs] = some (.tup xs) := rfl
@[simp] theorem truD_int (i : Int) : truD (.int i) = some (i != 0) := rfl
theorem bolsD_map (bs : List Bool) : bolsD (bs.map D.bl) = some bs := by
  induction bs with
  | nil => rfl
  | cons b r ih =>
    have : bolsD (D.bl b :: r.map D.bl) = (do let x ← boolD (.bl b); let xs ← bolsD (r.map D.bl); pure (x :: xs)) := by
      unfold bolsD
      rw [List.mapM_cons]
    rw [List.map_cons, this, ih]
    rfl
theorem allD_map (bs : List Bool) : allD [.lst (bs.map D.bl)] = some (.bl (bs.all id)) := by
  show (bolsD (bs.map D.bl)).map _ = _
  rw [bolsD_map]
  rfl
theorem intsD_map (ns : List Int) : intsD (ns.map D.int) = some ns := by
  induction ns with
  | nil => rfl
  | cons b r ih =>
    have : intsD (D.int b :: r.map D.int) = (do let x ← iD (.int b); let xs ← intsD (r.map D.int); pure (x :: xs)) := by
      unfold intsD
      rw [List.mapM_cons]
    rw [List.map_cons, this, ih]
    rfl
theorem maxD_map {ns : List Int} (h : ns ≠ []) : maxD [.lst (ns.map D.int)] = some (.int (maxI ns)) := by
  show (intsD (ns.map D.int)).bind _ = _
  rw [intsD_map]
  exact if_neg h
theorem rng1D_nat (n : Nat) (h : n < 1000000) : rng1D [.int (n : Int)] = some (rngL 0 n) := by
  show (if (n : Int) < 4611686018427387904 ∧ -4611686018427387904 ≤ (n : Int) then some (rngL 0 (n : Int).toNat) else none) = _
  rw [if_pos (by omega), Int.toNat_natCast]
end Dl
namespace K63
open PySem PySem.Spec PyProof.Rows L2 Dl
/-- a ratio as the program holds it -/
abbrev encR (r : Int × Int) : D := .tup [.int r.1, .int r.2]
abbrev encW (xs : List (Int × Int)) : D := .tup (xs.map encR)
def sg (a : Int) : Int := if 0 < a then 1 else if a < 0 then -1 else 0
theorem sg_cases (a : Int) : sg a = 1 ∨ sg a = -1 ∨ sg a = 0 := by
  unfold sg
  split
  · exact .inl rfl
  · split
    · exact .inr (.inl rfl)
    · exact .inr (.inr rfl)
theorem sign_ok (a b : Int) (q : PenS) : g_sign_of [encR (a, b)] q = .ok (.int (sg a)) q := by
  have run : g_sign_of [encR (a, b)] q = (b_sign_of [some (encR (a, b))] q).fn := rfl
  rw [run]
  unfold b_sign_of sg
  have e0 : atI [D.int a, D.int b] 0 = some (.int a) := rfl
  by_cases h1 : 0 < a
  · simp [gVar, e0, h1]
  · by_cases h2 : a < 0
    · simp [gVar, e0, h1, h2]
    · simp [gVar, e0, h1, h2]
theorem lsign_ok (a b : Int) (q : PenS) : g__law_sign [encR (a, b)] q = .ok (.int (sg a)) q := sign_ok a b q
theorem whole_int (i : Int) (q : PenS) : g_is_whole [.int i] q = .ok (.bl true) q := rfl
theorem whole_tup (xs : List D) (q : PenS) : g_is_whole [.tup xs] q = .ok (.bl false) q := rfl
theorem whole_lst (xs : List D) (q : PenS) : g_is_whole [.lst xs] q = .ok (.bl false) q := rfl
theorem isi_tup (xs : List D) : isiD [.tup xs, .ty "tuple"] = some (.bl true) := rfl
theorem isi_int (i : Int) : isiD [.int i, .ty "tuple"] = some (.bl false) := rfl
theorem isi2_tup (xs : List D) : isiD [.tup xs, .tup [.ty "tuple", .ty "list"]] = some (.bl true) := rfl
theorem isi2_lst (xs : List D) : isiD [.lst xs, .tup [.ty "tuple", .ty "list"]] = some (.bl true) := rfl
theorem isi2_int (i : Int) : isiD [.int i, .tup [.ty "tuple", .ty "list"]] = some (.bl false) := rfl
theorem pair_ok (a b : Int) (q : PenS) : g_is_pair [encR (a, b)] q = .ok (.bl (decide (0 < b))) q := by
  have run : g_is_pair [encR (a, b)] q = (b_is_pair [some (encR (a, b))] q).fn := rfl
  rw [run]
  unfold b_is_pair
  have e0 : atI [D.int a, D.int b] 0 = some (.int a) := rfl
  have e1 : atI [D.int a, D.int b] 1 = some (.int b) := rfl
  simp [gVar, e0, e1, isi2_tup, whole_int]
theorem loose_pair (a b : Int) (hb : 0 < b) (q : PenS) : g_is_loose [encR (a, b)] q = .ok (.bl true) q := by
  have run : g_is_loose [encR (a, b)] q = (b_is_loose [some (encR (a, b))] q).fn := rfl
  rw [run]
  unfold b_is_loose
  simp [gVar, isi_tup, whole_tup, pair_ok, hb]
theorem loose_int (a : Int) (q : PenS) : g_is_loose [.int a] q = .ok (.bl true) q := by
  have run : g_is_loose [.int a] q = (b_is_loose [some (.int a)] q).fn := rfl
  rw [run]
  unfold b_is_loose
  simp [gVar, whole_int]
theorem gcdD_int (a b : Int) : gcdD [.int a, .int b] = some (.int ((Nat.gcd a.natAbs b.natAbs : Nat) : Int)) := rfl
/-- lowest terms -/
def Low (r : Int × Int) : Prop := 0 < r.2 ∧ r.2 < 1000000 ∧ Nat.gcd r.1.natAbs r.2.natAbs = 1
theorem lowest_ok {a b by_ : Int} (h : Low (a, b)) (h1 : 0 < by_) (h2 : by_ < 1000000) (q : PenS) : g_lowest [.int (a * by_), .int (b * by_)] q = .ok (encR (a, b)) q := by
  obtain ⟨hb, _, hg⟩ := h
  dsimp only at hb hg
  have run : g_lowest [.int (a * by_), .int (b * by_)] q = (b_lowest [some (.int (a * by_)), some (.int (b * by_)), none] q).fn := rfl
  rw [run]
  unfold b_lowest
  have hp : 0 < b * by_ := Int.mul_pos hb h1
  have hgc : ((Nat.gcd (a * by_).natAbs (b * by_).natAbs : Nat) : Int) = by_ := by
    rw [Int.natAbs_mul, Int.natAbs_mul, Nat.gcd_mul_right, hg, Nat.one_mul]
    omega
  have f1 : fdivD (.int (a * by_)) (.int by_) = some (.int a) := by
    rw [fdivD_int (by omega) (by omega), Int.mul_fdiv_cancel _ (by omega)]
  have f2 : fdivD (.int (b * by_)) (.int by_) = some (.int b) := by
    rw [fdivD_int (by omega) (by omega), Int.mul_fdiv_cancel _ (by omega)]
  simp [gVar, hp, gcdD_int, hgc, f1, f2]
/-- an item that stands for the ratio r, as the text hands it -/
inductive Item : D → (Int × Int) → Prop
  | int (a : Int) : Item (.int a) (a, 1)
  | tup {a b k : Int} : 0 < k → k < 1000000 → Item (.tup [.int (a * k), .int (b * k)]) (a, b)
  | lst {a b k : Int} : 0 < k → k < 1000000 → Item (.lst [.int (a * k), .int (b * k)]) (a, b)
/-- lists made tuples -/
def tupled : D → D
  | .lst xs => .tup xs
  | d => d
theorem told_ok {d : D} {r : Int × Int} (h : Item d r) (hl : Low r) (q : PenS) : g_told_ratio [tupled d] q = .ok (encR r) q := by
  have e0 : ∀ x y : Int, atI [D.int x, D.int y] 0 = some (.int x) := fun _ _ => rfl
  have e1 : ∀ x y : Int, atI [D.int x, D.int y] 1 = some (.int y) := fun _ _ => rfl
  cases h with
  | int a =>
    have run : g_told_ratio [.int a] q = (b_told_ratio [some (.int a)] q).fn := rfl
    show g_told_ratio [.int a] q = _
    rw [run]
    unfold b_told_ratio
    simp [gVar, whole_int]
  | @tup a b k h1 h2 =>
    have run : g_told_ratio [.tup [.int (a * k), .int (b * k)]] q = (b_told_ratio [some (.tup [.int (a * k), .int (b * k)])] q).fn := rfl
    show g_told_ratio [.tup [.int (a * k), .int (b * k)]] q = _
    rw [run]
    unfold b_told_ratio
    simp [gVar, whole_tup, e0, e1, lowest_ok hl h1 h2]
  | @lst a b k h1 h2 =>
    have run : g_told_ratio [.tup [.int (a * k), .int (b * k)]] q = (b_told_ratio [some (.tup [.int (a * k), .int (b * k)])] q).fn := rfl
    show g_told_ratio [.tup [.int (a * k), .int (b * k)]] q = _
    rw [run]
    unfold b_told_ratio
    simp [gVar, whole_tup, e0, e1, lowest_ok hl h1 h2]
theorem looseI_ok {d : D} {r : Int × Int} (h : Item d r) (hl : Low r) (q : PenS) : g_is_loose [tupled d] q = .ok (.bl true) q := by
  cases h with
  | int a => exact loose_int a q
  | @tup a b k h1 h2 => exact loose_pair (a * k) (b * k) (Int.mul_pos hl.1 h1) q
  | @lst a b k h1 h2 => exact loose_pair (a * k) (b * k) (Int.mul_pos hl.1 h1) q
/-- .. of a row -/
inductive Items : List D → List (Int × Int) → Prop
  | nil : Items [] []
  | cons {d : D} {r : Int × Int} {ds : List D} {rs : List (Int × Int)} : Item d r → Low r → Items ds rs → Items (d :: ds) (r :: rs)
theorem inT_int (j : Nat) (a : Int) (q : PenS) : r_in_tuples (j + 1) [.int a] q = .ok (.int a) q := by
  have run : r_in_tuples (j + 1) [.int a] q = (b_in_tuples (r_in_tuples j) [some (.int a), none] q).fn := rfl
  rw [run]
  unfold b_in_tuples
  simp [gVar, isi2_int]
theorem inT_seq (j : Nat) {d : D} {xs : List D} (hd : d = .tup xs ∨ d = .lst xs) (hl : xs.length ≤ 1000) {f : D → D} (h : ∀ x ∈ xs, ∀ q, r_in_tuples j [x] q = .ok (f x) q) (q : PenS) : r_in_tuples (j + 1) [d] q = .ok (.tup (xs.map f)) q := by
  have run : r_in_tuples (j + 1) [d] q = (b_in_tuples (r_in_tuples j) [some d, none] q).fn := rfl
  rw [run]
  unfold b_in_tuples
  have e1 : isiD [d, .tup [.ty "tuple", .ty "list"]] = some (.bl true) := by rcases hd with rfl | rfl <;> rfl
  have e2 : seqD d = some xs := by rcases hd with rfl | rfl <;> rfl
  have e3 : lcM (.nm 1) gYes (gCall 1 (r_in_tuples j) (mCons (gVar 1) mNil)) [some d, none] xs q = .ok (xs.map f) q := lcM_map fun x hx => ⟨[some d, some x], rfl, by simp [gVar, h x hx q]⟩
  have e4 : xs.length ≤ 100000 := by omega
  simp [gVar, e1, e2, e3, e4]
end K63
namespace K63
open PySem PySem.Spec PyProof.Rows L2 Dl
theorem Items.len : ∀ {ds : List D} {rs : List (Int × Int)}, Items ds rs → ds.length = rs.length
  | _, _, .nil => rfl
  | _, _, .cons _ _ t => by rw [List.length_cons, List.length_cons, Items.len t]
theorem Items.mem : ∀ {ds : List D} {rs : List (Int × Int)}, Items ds rs → ∀ d ∈ ds, ∃ r, Item d r ∧ Low r
  | _, _, .nil, _, h => nomatch h
  | _, _, .cons a b t, d, h => by
    rcases List.mem_cons.mp h with rfl | h
    · exact ⟨_, a, b⟩
    · exact Items.mem t d h
theorem inT_item {d : D} {r : Int × Int} (h : Item d r) (j : Nat) (q : PenS) : r_in_tuples (j + 2) [d] q = .ok (tupled d) q := by
  have hi : ∀ x y : Int, ∀ z ∈ [D.int x, D.int y], ∀ q, r_in_tuples (j + 1) [z] q = .ok (id z) q := fun x y z hz q => by
    rcases List.mem_cons.mp hz with rfl | hz
    · exact inT_int j x q
    · rw [List.mem_singleton.mp hz]
      exact inT_int j y q
  cases h with
  | int a => exact inT_int (j + 1) a q
  | tup _ _ =>
    rw [inT_seq (j + 1) (.inl rfl) (by show 2 ≤ 1000; decide) (hi _ _)]
    rfl
  | lst _ _ =>
    rw [inT_seq (j + 1) (.inr rfl) (by show 2 ≤ 1000; decide) (hi _ _)]
    rfl
/-- a row as it is handed -/
def Row (d : D) (rs : List (Int × Int)) : Prop := ∃ ds, (d = .tup ds ∨ d = .lst ds) ∧ Items ds rs
theorem inRow_ok {ds : List D} {rs : List (Int × Int)} {d : D} (hd : d = .tup ds ∨ d = .lst ds) (h : Items ds rs) (hl : rs.length ≤ 1000) (q : PenS) : g_in_tuples [d] q = .ok (.tup (ds.map tupled)) q :=
  inT_seq 7 hd (by rw [h.len]; exact hl) (fun x hx q => by
    obtain ⟨r, h1, _⟩ := h.mem x hx
    exact inT_item h1 5 q) q
theorem told_all : ∀ {ds : List D} {rs : List (Int × Int)}, Items ds rs → ∀ x ∈ ds.map tupled, ∃ r, (∀ q, g_told_ratio [x] q = .ok (encR r) q) ∧ ∀ q, g_is_loose [x] q = .ok (.bl true) q
  | _, _, h, x, hx => by
    obtain ⟨d, hd, rfl⟩ := List.mem_map.mp hx
    obtain ⟨r, h1, h2⟩ := h.mem d hd
    exact ⟨r, told_ok h1 h2, looseI_ok h1 h2⟩
theorem told_map {a b : Option D} {q : PenS} : ∀ {ds : List D} {rs : List (Int × Int)}, Items ds rs → lcM (.nm 1) gYes (gCall 1 g_told_ratio (mCons (gVar 1) mNil)) [a, b] (ds.map tupled) q = .ok (rs.map encR) q
  | _, _, .nil => rfl
  | _, _, .cons (d := d) (r := r) (ds := ds) h hl t => by
    rw [List.map_cons]
    have ih := told_map (a := a) (b := b) (q := q) t
    unfold lcM
    show (noX (gCall 1 g_told_ratio (mCons (gVar 1) mNil) [a, some (tupled d)]) q).bd _ = _
    have e : noX (gCall 1 g_told_ratio (mCons (gVar 1) mNil) [a, some (tupled d)]) q = .ok (encR r) q := by
      have e1 : gCall 1 g_told_ratio (mCons (gVar 1) mNil) [a, some (tupled d)] q = .ok (encR r) q := by simp [gVar, told_ok h hl]
      unfold noX
      rw [e1]
    rw [e]
    show (lcM (.nm 1) gYes (gCall 1 g_told_ratio (mCons (gVar 1) mNil)) [a, b] (ds.map tupled) q).bd _ = _
    rw [ih]
    rfl
theorem loose_ok {ds : List D} {rs : List (Int × Int)} (h : Items ds rs) (hl : rs.length ≤ 1000) (q : PenS) : g_loose_row [.tup (ds.map tupled)] q = .ok (encW rs) q := by
  have run : g_loose_row [.tup (ds.map tupled)] q = (b_loose_row [some (.tup (ds.map tupled)), none] q).fn := rfl
  rw [run]
  unfold b_loose_row
  have e1 : lcM (.nm 1) gYes (gCall 1 g_is_loose (mCons (gVar 1) mNil)) [some (.tup (ds.map tupled)), none] (ds.map tupled) q = .ok ((ds.map tupled).map fun _ => .bl true) q := lcM_map fun x hx => ⟨[_, some x], rfl, by
    obtain ⟨r, _, h2⟩ := told_all h x hx
    simp [gVar, h2]⟩
  have e2 : ((ds.map tupled).map fun _ => D.bl true) = (ds.map fun _ => true).map D.bl := by simp
  have e3 : allD [.lst ((ds.map fun _ => true).map D.bl)] = some (.bl true) := by
    rw [allD_map]
    simp
  have e4 := told_map (a := some (.tup (ds.map tupled))) (b := none) (q := q) h
  have e5 : ds.length ≤ 100000 := by rw [h.len]; omega
  have e6 : rs.length ≤ 100000 := by omega
  rw [e2] at e1
  simp only [e_sSeq, e_sIf, e_gOr, e_gNot, e_g1, e_g2, e_mCons, e_mNil, e_gC, gVar, List.getElem?_cons_zero, bd_ok, lift_some, isi_tup, truD_bl, e_gLc, seqD_tup, e_wipe0, e_wipe1, List.set_cons_succ, List.set_cons_zero, e1, List.length_map, e5, if_true, e3, st_ok, e_sNext, sq_nx, e_sRet, e4, e6, tupleD_lst, fn_rt, Bool.not_true, Bool.false_eq_true, if_false]
theorem row_ok {d : D} {rs : List (Int × Int)} (h : Row d rs) (h1 : 1 ≤ rs.length) (h6 : rs.length ≤ 6) (q : PenS) : g_row_from [d, .int 1, .int 6] q = .ok (encW rs) q := by
  obtain ⟨ds, hd, hi⟩ := h
  have run : g_row_from [d, .int 1, .int 6] q = (b_row_from [some d, some (.int 1), some (.int 6), none] q).fn := rfl
  rw [run]
  unfold b_row_from
  have e1 := inRow_ok hd hi (by omega) q
  have e2 := loose_ok hi (by omega) q
  have e3 : isNonD (encW rs) = some (.bl false) := rfl
  have e4 : (1 : Int) ≤ (rs.length : Int) := by omega
  have e5 : (rs.length : Int) ≤ 6 := by omega
  simp [gVar, e1, e2, e3, gChain, e4, e5]
end K63
namespace Dl
open PySem PySem.Spec PyProof.Rows L2
theorem rng1D_int {j : Int} (h : j < 1000000) (h2 : -1000000 < j) : rng1D [.int j] = some (rngL 0 j.toNat) := by
  show (if j < 4611686018427387904 ∧ -4611686018427387904 ≤ j then some (rngL 0 j.toNat) else none) = _
  rw [if_pos (by omega)]
theorem filter_int (p : Int → Bool) (P : D → Bool) (h : ∀ i, P (.int i) = p i) (s : List Int) : (s.map D.int).filter P = (s.filter p).map D.int := by
  induction s with
  | nil => rfl
  | cons a r ih =>
    rw [List.map_cons]
    cases hp : p a with
    | true => rw [List.filter_cons_of_pos (by rw [h, hp]), List.filter_cons_of_pos hp, List.map_cons, ih]
    | false => rw [List.filter_cons_of_neg (by rw [h, hp]; decide), List.filter_cons_of_neg (by rw [hp]; decide), ih]
theorem atI_int {l : List Int} {i : Nat} (h : i < l.length) : atI (l.map D.int) (i : Int) = some (.int (l.getD i 0)) := atI_nat (by
  rw [List.getElem?_map, List.getElem?_eq_getElem h, List.getD_eq_getElem?_getD, List.getElem?_eq_getElem h]
  rfl)
end Dl
namespace K63
open PySem PySem.Spec PyProof.Rows L2 Dl
def nz (s : List Int) : List Int := s.filter fun x => !decide (x = 0)
def tnB (l : List Int) (k : Nat) : Bool := !decide (l.getD k 0 = l.getD (k + 1) 0)
def turnsL (l : List Int) : Nat := ((List.range (l.length - 1)).filter (tnB l)).length
def lowF (s : List Int) : Nat := turnsL (nz s)
def intP (p : Int → Bool) : D → Bool
  | .int i => p i
  | _ => false
theorem changes_ok {d : D} {s : List Int} (hd : seqD d = some (s.map D.int)) (hl : s.length ≤ 1000) (q : PenS) : g_sign_changes [d] q = .ok (.int (lowF s : Nat)) q := by
  have run : g_sign_changes [d] q = (b_sign_changes [some d, none, none, none] q).fn := rfl
  rw [run]
  unfold b_sign_changes
  have e1 : lcM (.nm 2) (g1 boolD (g2 neD (gVar 2) (gC (.int 0)))) (gVar 2) [some d, none, none, none] (s.map D.int) q = .ok ((nz s).map D.int) q := by
    have := lcM_pure (t := .nm 2) (test := g1 boolD (g2 neD (gVar 2) (gC (.int 0)))) (elt := gVar 2) (ρ := [some d, none, none, none]) (q := q) (p := intP fun x => !decide (x = 0)) (f := id) (xs := s.map D.int) fun x hx => by
      obtain ⟨i, _, rfl⟩ := List.mem_map.mp hx
      exact ⟨_, rfl, by simp [gVar, intP], fun _ => by simp [gVar]⟩
    rw [this, List.map_id, filter_int (fun x => !decide (x = 0)) _ (fun _ => rfl)]
    rfl
  have l1 : (nz s).length ≤ 1000 := Nat.le_trans (List.length_filter_le _ _) hl
  have e2 : rng1D [.int (((nz s).length : Int) - 1)] = some (rngL 0 ((nz s).length - 1)) := by
    rw [rng1D_int (by omega) (by omega)]
    congr 2
    omega
  have e3 : lcM (.nm 3) (g1 boolD (g2 neD (g2 ixD (gVar 1) (gVar 3)) (g2 ixD (gVar 1) (g2 addD (gVar 3) (gC (.int 1)))))) (gVar 3) [some d, some (.lst ((nz s).map D.int)), none, none] (rngL 0 ((nz s).length - 1)) q = .ok (((List.range ((nz s).length - 1)).filter (tnB (nz s))).map fun i => D.int (0 + (i : Nat))) q := by
    have := lcM_pure (t := .nm 3) (test := g1 boolD (g2 neD (g2 ixD (gVar 1) (gVar 3)) (g2 ixD (gVar 1) (g2 addD (gVar 3) (gC (.int 1)))))) (elt := gVar 3) (ρ := [some d, some (.lst ((nz s).map D.int)), none, none]) (q := q) (p := intP fun x => tnB (nz s) x.toNat) (f := id) (xs := rngL 0 ((nz s).length - 1)) fun x hx => by
      obtain ⟨i, hi, rfl⟩ := List.mem_map.mp hx
      have hi := List.mem_range.mp hi
      have a1 : atI ((nz s).map D.int) (i : Int) = some (.int ((nz s).getD i 0)) := atI_int (by omega)
      have a2 : atI ((nz s).map D.int) ((i : Int) + 1) = some (.int ((nz s).getD (i + 1) 0)) := by
        rw [show (i : Int) + 1 = ((i + 1 : Nat) : Int) by omega]
        exact atI_int (by omega)
      refine ⟨_, rfl, ?_, fun _ => by simp [gVar]⟩
      simp only [e_g1, e_g2, gVar, List.set_cons_succ, List.set_cons_zero, List.getElem?_cons_succ, List.getElem?_cons_zero, bd_ok, lift_some, ixD_lst, a1, a2, e_gC, addD_int, neD_int, boolD_bl, intP, tnB, Int.zero_add, Int.toNat_natCast]
    rw [this, List.map_id]
    congr 1
    unfold rngL
    generalize List.range ((nz s).length - 1) = rr
    induction rr with
    | nil => rfl
    | cons i r ih =>
      rw [List.map_cons]
      have hh : intP (fun x => tnB (nz s) x.toNat) (D.int (0 + (i : Int))) = tnB (nz s) i := by
        show tnB (nz s) (0 + (i : Int)).toNat = _
        rw [Int.zero_add, Int.toNat_natCast]
      cases hp : tnB (nz s) i with
      | true => rw [List.filter_cons_of_pos (by rw [hh, hp]), List.filter_cons_of_pos hp, List.map_cons, ih]
      | false => rw [List.filter_cons_of_neg (by rw [hh, hp]; decide), List.filter_cons_of_neg (by rw [hp]; decide), ih]
  have l2 : ((List.range ((nz s).length - 1)).filter (tnB (nz s))).length ≤ 1000 := Nat.le_trans (List.length_filter_le _ _) (by rw [List.length_range]; omega)
  have l3 : (nz s).length ≤ 100000 := by omega
  have l4 : ((List.range ((nz s).length - 1)).filter (tnB (nz s))).length ≤ 100000 := by omega
  simp [gVar, hd, e1, e2, e3, l3, l4, lowF, turnsL]
theorem turns_ok {d : D} {s : List Int} (hd : seqD d = some (s.map D.int)) (hl : s.length ≤ 1000) (q : PenS) : g__law_sign_turns [d] q = .ok (.int (lowF s : Nat)) q := changes_ok hd hl q
/-- the signs of a row -/
def sgs (rs : List (Int × Int)) : List Int := rs.map fun r => sg r.1
theorem by_ok {rs : List (Int × Int)} (hl : rs.length ≤ 1000) (q : PenS) : g_changes_by [encW rs] q = .ok (.int (lowF (sgs rs) : Nat)) q := by
  have run : g_changes_by [encW rs] q = (b_changes_by [some (encW rs), none] q).fn := rfl
  rw [run]
  unfold b_changes_by
  have e1 : lcM (.nm 1) gYes (gCall 1 g_sign_of (mCons (gVar 1) mNil)) [some (encW rs), none] (rs.map encR) q = .ok ((sgs rs).map D.int) q := by
    have := lcM_map (t := .nm 1) (elt := gCall 1 g_sign_of (mCons (gVar 1) mNil)) (ρ := [some (encW rs), none]) (q := q) (f := fun d => match d with | .tup [.int a, _] => .int (sg a) | d => d) (xs := rs.map encR) fun x hx => by
      obtain ⟨r, _, rfl⟩ := List.mem_map.mp hx
      exact ⟨_, rfl, by simp [gVar]; exact sign_ok r.1 r.2 q⟩
    rw [this]
    unfold sgs
    rw [List.map_map, List.map_map]
    rfl
  have l1 : (sgs rs).length ≤ 100000 := by unfold sgs; rw [List.length_map]; omega
  have e2 := changes_ok (d := .lst ((sgs rs).map D.int)) (s := sgs rs) rfl (by unfold sgs; rw [List.length_map]; exact hl) q
  simp [gVar, e1, l1, e2]
theorem least_ok {d : D} {rs : List (Int × Int)} (h : Row d rs) (h1 : 1 ≤ rs.length) (h6 : rs.length ≤ 6) (q : PenS) : g_least_changes [d] q = .ok (.int (lowF (sgs rs) : Nat)) q := by
  have run : g_least_changes [d] q = (b_least_changes [some d] q).fn := rfl
  rw [run]
  unfold b_least_changes
  have e1 := row_ok h h1 h6 q
  have e2 := by_ok (rs := rs) (by omega) q
  simp [gVar, e1, e2]
end K63
namespace K63
open PySem PySem.Spec PyProof.Rows L2 Dl
theorem neD_pair (a b c d : Int) : neD (.tup [.int a, .int b]) (.tup [.int c, .int d]) = some (.bl (!(decide (a = c) && decide (b = d)))) := by
  show (if SeqAt.shaped (.tuple [.int a, .int b]) = true ∧ SeqAt.shaped (.tuple [.int c, .int d]) = true then some (D.bl (!PyData.eqv (.tuple [.int a, .int b]) (.tuple [.int c, .int d]))) else none) = _
  have hs : ∀ x y : Int, SeqAt.shaped (.tuple [.int x, .int y]) = true := fun x y => by simp [SeqAt.shaped, PyData.canLay0, PyData.canLayAll0, PyData.depth, PyData.depthAll]
  rw [if_pos ⟨hs a b, hs c d⟩]
  congr 2
  simp only [PyData.eqv, PyData.eqvAll, Bool.and_true]
  by_cases h1 : a = c <;> by_cases h2 : b = d <;> simp [h1, h2]
def firstF (s : List Int) : Int := (nz s).headD 0
theorem low_zero {r : Int × Int} (h : Low r) : (r.1 = 0 ∧ r.2 = 1) ↔ r.1 = 0 := by
  obtain ⟨a, b⟩ := r
  obtain ⟨h1, _, h3⟩ := h
  dsimp only at *
  refine ⟨fun h => h.1, fun h => ⟨h, ?_⟩⟩
  subst h
  rw [Int.natAbs_zero, Nat.gcd_zero_left] at h3
  omega
theorem sg_zero (a : Int) : sg a = 0 ↔ a = 0 := by
  unfold sg
  split
  · constructor <;> intro h <;> omega
  · split
    · constructor <;> intro h <;> omega
    · constructor <;> intro h <;> omega
theorem firstby_ok {rs : List (Int × Int)} (hlow : ∀ r ∈ rs, Low r) (hl : rs.length ≤ 1000) (q : PenS) : g_first_by [encW rs] q = .ok (.int (firstF (sgs rs))) q := by
  have run : g_first_by [encW rs] q = (b_first_by [some (encW rs), none, none] q).fn := rfl
  rw [run]
  unfold b_first_by
  have e1 : lcM (.nm 2) (g1 boolD (g2 neD (gVar 2) (gC (.tup [.int 0, .int 1])))) (gCall 1 g_sign_of (mCons (gVar 2) mNil)) [some (encW rs), none, none] (rs.map encR) q = .ok ((nz (sgs rs)).map D.int) q := by
    have := lcM_pure (t := .nm 2) (test := g1 boolD (g2 neD (gVar 2) (gC (.tup [.int 0, .int 1])))) (elt := gCall 1 g_sign_of (mCons (gVar 2) mNil)) (ρ := [some (encW rs), none, none]) (q := q) (p := fun d => match d with | .tup [.int a, _] => !decide (a = 0) | _ => false) (f := fun d => match d with | .tup [.int a, _] => .int (sg a) | d => d) (xs := rs.map encR) fun x hx => by
      obtain ⟨r, hr, rfl⟩ := List.mem_map.mp hx
      have hz := low_zero (hlow r hr)
      refine ⟨_, rfl, ?_, fun _ => by simp [gVar]; exact sign_ok r.1 r.2 q⟩
      simp only [e_g1, e_g2, gVar, List.set_cons_succ, List.set_cons_zero, List.getElem?_cons_succ, List.getElem?_cons_zero, bd_ok, lift_some, e_gC, neD_pair, boolD_bl]
      congr 2
      by_cases h : r.1 = 0
      · simp [h, (hz.mpr h).2]
      · simp [h]
    rw [this]
    congr 1
    unfold nz sgs
    clear this hl run
    induction rs with
    | nil => rfl
    | cons r t ih =>
      have ih := ih fun r hr => hlow r (List.mem_cons_of_mem _ hr)
      rw [List.map_cons, List.map_cons]
      by_cases h : r.1 = 0
      · rw [List.filter_cons_of_neg (by simp [h]), List.filter_cons_of_neg (by simp [(sg_zero r.1).mpr h]), ih]
      · rw [List.filter_cons_of_pos (by simp [h]), List.filter_cons_of_pos (by simpa using fun z => h ((sg_zero r.1).mp z)), List.map_cons, List.map_cons, ih]
  have l1 : (nz (sgs rs)).length ≤ 100000 := Nat.le_trans (List.length_filter_le _ _) (by unfold sgs; rw [List.length_map]; omega)
  cases hn : nz (sgs rs) with
  | nil =>
    rw [hn] at e1
    simp [gVar, e1, firstF, hn]
  | cons a t =>
    rw [hn] at e1 l1
    rw [List.map_cons] at e1
    have e2 : atI (D.int a :: t.map D.int) 0 = some (.int a) := by
      have := atI_int (l := a :: t) (i := 0) (by simp)
      simpa using this
    have l2 : t.length + 1 ≤ 100000 := by simpa using l1
    have l3 : (0 : Int) < (t.length : Int) + 1 := by omega
    simp [gVar, e1, firstF, hn, l2, l3, e2]
theorem Row.low {d : D} {rs : List (Int × Int)} (h : Row d rs) : ∀ r ∈ rs, Low r := by
  obtain ⟨ds, hd, hi⟩ := h
  clear hd d
  induction hi with
  | nil => intro r hr; cases hr
  | cons _ h _ ih =>
    intro r hr
    rcases List.mem_cons.mp hr with rfl | hr
    · exact h
    · exact ih r hr
theorem firstsign_ok {d : D} {rs : List (Int × Int)} (h : Row d rs) (h1 : 1 ≤ rs.length) (h6 : rs.length ≤ 6) (q : PenS) : g_first_sign [d] q = .ok (.int (firstF (sgs rs))) q := by
  have run : g_first_sign [d] q = (b_first_sign [some d] q).fn := rfl
  rw [run]
  unfold b_first_sign
  have e1 := row_ok h h1 h6 q
  have e2 := firstby_ok h.low (by omega) q
  simp [gVar, e1, e2]
/-! ### the most changes -/
def encK (kvs : List (Int × Int)) : List (Int × D) := kvs.map fun p => (p.1, .int p.2)
def getI (kvs : List (Int × Int)) (k : Int) : Int := (kvs.lookup k).getD 0
def putI (kvs : List (Int × Int)) (k v : Int) : List (Int × Int) := if kvs.any (fun p => decide (p.1 = k)) then kvs.map fun p => if p.1 = k then (p.1, v) else p else kvs ++ [(k, v)]
theorem encK_put (kvs : List (Int × Int)) (k v : Int) : putD (encK kvs) k (.int v) = encK (putI kvs k v) := by
  unfold putD putI encK
  have e : (kvs.map fun p => (p.1, D.int p.2)).any (fun p => decide (p.1 = k)) = kvs.any fun p => decide (p.1 = k) := by
    rw [List.any_map]
    rfl
  rw [e]
  split
  · rw [List.map_map, List.map_map]
    congr 1
    funext p
    show (if p.1 = k then (p.1, D.int v) else (p.1, D.int p.2)) = _
    by_cases h : p.1 = k <;> simp [h]
  · rw [List.map_append]
    rfl
theorem encK_keys (kvs : List (Int × Int)) : (encK kvs).map (·.1) = kvs.map (·.1) := by
  unfold encK
  rw [List.map_map]
  rfl
theorem encK_get : ∀ {kvs : List (Int × Int)} {k : Int}, k ∈ kvs.map (·.1) → (encK kvs).lookup k = some (.int (getI kvs k))
  | (k', v) :: r, k, h => by
    show ((k', D.int v) :: encK r).lookup k = _
    unfold getI
    by_cases e : k = k'
    · subst e
      rw [List.lookup_cons_self, List.lookup_cons_self]
      rfl
    · have hb : (k == k') = false := by simpa using e
      rw [List.lookup_cons, hb, List.lookup_cons, hb]
      rw [List.map_cons] at h
      rcases List.mem_cons.mp h with h | h
      · exact absurd h e
      · exact encK_get h
  | [], _, h => by cases h
def someF (best : List (Int × Int)) (s : Int) : List Int := (srtI (best.map (·.1))).map fun o => getI best o + if o ≠ s then 1 else 0
def stepF (best : List (Int × Int)) (out : List (Int × Int)) (s : Int) : List (Int × Int) := if someF best s = [] then out else putI out s (maxI (someF best s))
def nextF (best : List (Int × Int)) (able : List Int) : List (Int × Int) := able.foldl (stepF best) []
theorem srtI_mem {ns : List Int} {x : Int} (h : x ∈ srtI ns) : x ∈ ns := (List.mergeSort_perm ns _).mem_iff.mp h
theorem srtI_len (ns : List Int) : (srtI ns).length = ns.length := (List.mergeSort_perm ns _).length_eq
theorem forL_cons {t : Tg} {b : MS} {x : D} {xs : List D} {ρ ρ1 ρ2 : DEnv} {q q2 : PenS} (ht : tgD t x ρ = some ρ1) (hb : b ρ1 q = .nx ρ2 q2) : forL t b (x :: xs) ρ q = forL t b xs ρ2 q2 := by
  rw [show forL t b (x :: xs) = fun ρ q => match tgD t x ρ with
    | none => .bad
    | some ρ1 => match b ρ1 q with
      | .nx ρ2 q2 => forL t b xs ρ2 q2
      | .ct ρ2 q2 => forL t b xs ρ2 q2
      | .bk ρ2 q2 => .nx ρ2 q2
      | .rt d q2 => .rt d q2
      | .exc c fs q2 => .exc c fs q2
      | .bad => .bad from rfl]
  dsimp only
  rw [ht]
  dsimp only
  rw [hb]
def nbB : MS := (sSeq (sSet 4 (gLc [5] (g1 seqD (g1 sortKD (mCons (gVar 0) mNil))) (.nm 5) gYes (g2 addD (g2 getD_ (gVar 0) (gVar 5)) (gIf (g1 boolD (g2 neD (gVar 5) (gVar 3))) (gC (.int 1)) (gC (.int 0)))))) (sIf (g1 boolD (g2 gtD (g1 lenD (mCons (gVar 4) mNil)) (gC (.int 0)))) (sDput 2 (gVar 3) (g1 maxD (mCons (gVar 4) mNil))) sNext))
theorem next_loop {best : List (Int × Int)} (hb : best.length < 64) (x1 : Option D) (q : PenS) : ∀ (able : List Int) (out : List (Int × Int)) (x3 x4 x5 : Option D), out.length + able.length < 1000 → ∃ y3 y4 y5, forL (.nm 3) nbB
    (able.map D.int) [some (.dct (encK best)), x1, some (.dct (encK out)), x3, x4, x5] q = .nx [some (.dct (encK best)), x1, some (.dct (encK (able.foldl (stepF best) out))), y3, y4, y5] q
  | [], out, x3, x4, x5, _ => ⟨x3, x4, x5, rfl⟩
  | s :: r, out, x3, x4, x5, hl => by
    rw [List.length_cons] at hl
    have hk : sortKD [.dct (encK best)] = some (.lst ((srtI (best.map (·.1))).map D.int)) := by
      show (if (encK best).length < 64 then some (D.lst ((srtI ((encK best).map (·.1))).map D.int)) else none) = _
      rw [if_pos (by unfold encK; rw [List.length_map]; exact hb), encK_keys]
    have e1 : lcM (.nm 5) gYes (g2 addD (g2 getD_ (gVar 0) (gVar 5)) (gIf (g1 boolD (g2 neD (gVar 5) (gVar 3))) (gC (.int 1)) (gC (.int 0)))) [some (.dct (encK best)), x1, some (.dct (encK out)), some (.int s), x4, none] ((srtI (best.map (·.1))).map D.int) q = .ok ((someF best s).map D.int) q := by
      have := lcM_map (t := .nm 5) (elt := g2 addD (g2 getD_ (gVar 0) (gVar 5)) (gIf (g1 boolD (g2 neD (gVar 5) (gVar 3))) (gC (.int 1)) (gC (.int 0)))) (ρ := [some (.dct (encK best)), x1, some (.dct (encK out)), some (.int s), x4, none]) (q := q) (f := fun d => match d with | .int o => .int (getI best o + if o ≠ s then 1 else 0) | d => d) (xs := (srtI (best.map (·.1))).map D.int) fun x hx => by
        obtain ⟨o, ho, rfl⟩ := List.mem_map.mp hx
        have eg : getD_ (.dct (encK best)) (.int o) = some (.int (getI best o)) := encK_get (srtI_mem ho)
        refine ⟨_, rfl, ?_⟩
        by_cases h : o = s
        · simp [gVar, eg, h]
          rw [h] at eg
          simp [eg]
        · simp [gVar, eg, h]
      rw [this]
      unfold someF
      rw [List.map_map, List.map_map]
      rfl
    have lk : (someF best s).length ≤ 100000 := by
      unfold someF
      rw [List.length_map, srtI_len, List.length_map]
      omega
    rw [List.map_cons, List.foldl_cons]
    by_cases hn : someF best s = []
    · have eb : stepF best out s = out := if_pos hn
      rw [eb]
      obtain ⟨y3, y4, y5, ih⟩ := next_loop hb x1 q r out (some (.int s)) (some (.lst [])) x5 (by omega)
      refine ⟨y3, y4, y5, (forL_cons rfl ?_).trans ih⟩
      rw [hn] at e1
      unfold nbB
      simp [gVar, hk, e1]
    · have eb : stepF best out s = putI out s (maxI (someF best s)) := if_neg hn
      rw [eb]
      have hp : (putI out s (maxI (someF best s))).length ≤ out.length + 1 := by
        unfold putI
        split
        · rw [List.length_map]; omega
        · rw [List.length_append]; simp
      obtain ⟨y3, y4, y5, ih⟩ := next_loop hb x1 q r (putI out s (maxI (someF best s))) (some (.int s)) (some (.lst ((someF best s).map D.int))) x5 (by omega)
      refine ⟨y3, y4, y5, (forL_cons rfl ?_).trans ih⟩
      unfold nbB
      have em := maxD_map hn
      have el : (0 : Int) < ((someF best s).length : Int) := by
        have := List.length_pos_iff.mpr hn
        omega
      have eo : (encK out).length < 100000 := by unfold encK; rw [List.length_map]; omega
      simp [gVar, hk, e1, lk, hn, sDput, em, eo, encK_put]
theorem next_ok {best : List (Int × Int)} {able : List Int} (hb : best.length < 64) (ha : able.length < 64) (q : PenS) : g_next_best [.dct (encK best), .lst (able.map D.int)] q = .ok (.dct (encK (nextF best able))) q := by
  have run : g_next_best [.dct (encK best), .lst (able.map D.int)] q = (b_next_best [some (.dct (encK best)), some (.lst (able.map D.int)), none, none, none, none] q).fn := rfl
  rw [run]
  obtain ⟨y3, y4, y5, e⟩ := next_loop hb (some (.lst (able.map D.int))) q able [] none none none (by simp; omega)
  have e' : sFor (.nm 3) (g1 seqD (gVar 1)) nbB [some (.dct (encK best)), some (.lst (able.map D.int)), some (.dct []), none, none, none] q = .nx [some (.dct (encK best)), some (.lst (able.map D.int)), some (.dct (encK (nextF best able))), y3, y4, y5] q := by
    rw [e_sFor, e_g1]
    show forL (.nm 3) nbB (able.map D.int) _ q = _
    exact e
  show (sSeq (sSet 2 (gC (.dct []))) (sSeq (sFor (.nm 3) (g1 seqD (gVar 1)) nbB) (sRet (gDct 2))) _ q).fn = _
  simp only [e_sSeq, e_sSet, e_gC, st_ok, sq_nx, List.set_cons_succ, List.set_cons_zero, e', e_sRet, gDct, List.getElem?_cons_succ, List.getElem?_cons_zero, fn_rt]
def ableF (x : Int) : List Int := ([1, -1] : List Int).filter fun z => decide (x ∈ [0, z])
def initF (f : Int) (x : Int) : List (Int × Int) := ((ableF x).filter fun z => decide (z = f)).map fun z => (z, 0)
def mostG (f : Int) : List Int → List (Int × Int)
  | [] => []
  | x :: r => r.foldl (fun best y => nextF best (ableF y)) (initF f x)
def mostR (best : List (Int × Int)) : D := if best = [] then .non else .int (maxI (best.map fun p => getI best p.1))
def enumF : Nat → List D → List D
  | _, [] => []
  | k, x :: r => .tup [.int (k : Nat), x] :: enumF (k + 1) r
theorem enumF_eq : ∀ (xs : List D) (k : Nat), (List.range' k xs.length).zipWith (fun i d => D.tup [.int (i : Nat), d]) xs = enumF k xs
  | [], k => rfl
  | x :: r, k => by
    rw [List.length_cons, List.range'_succ, List.zipWith_cons_cons, enumF_eq r (k + 1)]
    rfl
theorem enumL_eq (xs : List D) : enumL xs = enumF 0 xs := by
  unfold enumL
  rw [List.range_eq_range']
  exact enumF_eq xs 0
end K63
namespace K63
open PySem PySem.Spec PyProof.Rows L2 Dl
theorem inD_pair (i z : Int) : inD (.int i) (.tup [.int 0, .int z]) = some (.bl (decide (i ∈ [0, z]))) := rfl
theorem putI_len (kvs : List (Int × Int)) (k v : Int) : (putI kvs k v).length ≤ kvs.length + 1 := by
  unfold putI
  split
  · rw [List.length_map]; omega
  · rw [List.length_append]; simp
theorem stepF_len (best out : List (Int × Int)) (s : Int) : (stepF best out s).length ≤ out.length + 1 := by
  unfold stepF
  split
  · omega
  · exact putI_len _ _ _
theorem nextF_len (best : List (Int × Int)) : ∀ (able : List Int) (out : List (Int × Int)), (able.foldl (stepF best) out).length ≤ out.length + able.length
  | [], out => Nat.le_refl _
  | s :: r, out => by
    have h1 := nextF_len best r (stepF best out s)
    have h2 := stepF_len best out s
    rw [List.foldl_cons, List.length_cons]
    omega
theorem ableF_len (x : Int) : (ableF x).length ≤ 2 := List.length_filter_le _ _
theorem nextF_able (best : List (Int × Int)) (x : Int) : (nextF best (ableF x)).length ≤ 2 := by
  have h1 := nextF_len best (ableF x) []
  have h2 := ableF_len x
  unfold nextF
  simp only [List.length_nil] at h1
  omega
theorem init_cases (f x : Int) (hf : f = 1 ∨ f = -1) : (ableF x).filter (fun z => decide (z = f)) = [] ∨ (ableF x).filter (fun z => decide (z = f)) = [f] := by
  unfold ableF
  by_cases h1 : x = 0 ∨ x = 1 <;> by_cases h2 : x = 0 ∨ x = -1 <;> rcases hf with rfl | rfl <;> simp [List.filter_cons, h1, h2]
def mbB : MS := (sSeq (sSet 5 (gLc [6] (g1 seqD (mTup (mCons (gC (.int 1)) (mCons (g1 negD (gC (.int 1))) mNil)))) (.nm 6) (g1 boolD (g2 inD (gCall 1 g_sign_of (mCons (gVar 4) mNil)) (mTup (mCons (gC (.int 0)) (mCons (gVar 6) mNil))))) (gVar 6))) (sIf (g1 boolD (g2 eqD (gVar 3) (gC (.int 0)))) (sSet 2 (g1 dictD (gLc [6] (g1 seqD (gVar 5)) (.nm 6) (g1 boolD (g2 eqD (gVar 6) (gVar 1))) (mTup (mCons (gVar 6) (mCons (gC (.int 0)) mNil)))))) (sSet 2 (gCall 2 g_next_best (mCons (gVar 2) (mCons (gVar 5) mNil))))))
theorem mb_step {f : Int} (hf : f = 1 ∨ f = -1) {best : List (Int × Int)} (hb : best.length ≤ 2) (k : Nat) (r : Int × Int) (x0 x5 x6 : Option D) (q : PenS) : mbB [x0, some (.int f), some (.dct (encK best)), some (.int (k : Nat)), some (encR r), x5, x6] q =
    .nx [x0, some (.int f), some (.dct (encK (if k = 0 then initF f (sg r.1) else nextF best (ableF (sg r.1))))), some (.int (k : Nat)), some (encR r), some (.lst ((ableF (sg r.1)).map D.int)), x6] q := by
  have es : ∀ q, g_sign_of [encR r] q = .ok (.int (sg r.1)) q := fun q => sign_ok r.1 r.2 q
  have e1 : ∀ x5, lcM (.nm 6) (g1 boolD (g2 inD (gCall 1 g_sign_of (mCons (gVar 4) mNil)) (mTup (mCons (gC (.int 0)) (mCons (gVar 6) mNil))))) (gVar 6) [x0, some (.int f), some (.dct (encK best)), some (.int (k : Nat)), some (encR r), x5, none] [.int 1, .int (-1)] q = .ok ((ableF (sg r.1)).map D.int) q := fun x5 => by
    have := lcM_pure (t := .nm 6) (test := g1 boolD (g2 inD (gCall 1 g_sign_of (mCons (gVar 4) mNil)) (mTup (mCons (gC (.int 0)) (mCons (gVar 6) mNil))))) (elt := gVar 6) (ρ := [x0, some (.int f), some (.dct (encK best)), some (.int (k : Nat)), some (encR r), x5, none]) (q := q) (p := intP fun z => decide (sg r.1 ∈ [0, z])) (f := id) (xs := ([1, -1] : List Int).map D.int) fun x hx => by
      obtain ⟨i, _, rfl⟩ := List.mem_map.mp hx
      refine ⟨_, rfl, ?_, fun _ => by simp [gVar]⟩
      simp only [e_g1, e_g2, e_gCall, e_mCons, e_mNil, e_mTup, gVar, List.set_cons_succ, List.set_cons_zero, List.getElem?_cons_succ, List.getElem?_cons_zero, bd_ok, lift_some, e_gC, List.length_cons, List.length_nil, if_true, es]
      rw [if_pos (by decide)]
      simp only [lift_some, bd_ok, inD_pair, boolD_bl, intP]
    have e : ([D.int 1, D.int (-1)] : List D) = ([1, -1] : List Int).map D.int := rfl
    rw [e, this, List.map_id, filter_int (fun z => decide (sg r.1 ∈ [0, z])) _ (fun _ => rfl)]
    rfl
  have la : (ableF (sg r.1)).length ≤ 100000 := Nat.le_trans (ableF_len _) (by decide)
  unfold mbB
  by_cases hk : k = 0
  · subst hk
    have e2 : lcM (.nm 6) (g1 boolD (g2 eqD (gVar 6) (gVar 1))) (mTup (mCons (gVar 6) (mCons (gC (.int 0)) mNil))) [x0, some (.int f), some (.dct (encK best)), some (.int 0), some (encR r), some (.lst ((ableF (sg r.1)).map D.int)), none] ((ableF (sg r.1)).map D.int) q = .ok (((ableF (sg r.1)).filter fun z => decide (z = f)).map fun z => .tup [.int z, .int 0]) q := by
      have := lcM_pure (t := .nm 6) (test := g1 boolD (g2 eqD (gVar 6) (gVar 1))) (elt := mTup (mCons (gVar 6) (mCons (gC (.int 0)) mNil))) (ρ := [x0, some (.int f), some (.dct (encK best)), some (.int 0), some (encR r), some (.lst ((ableF (sg r.1)).map D.int)), none]) (q := q) (p := intP fun z => decide (z = f)) (f := fun d => .tup [d, .int 0]) (xs := (ableF (sg r.1)).map D.int) fun x hx => by
        obtain ⟨i, _, rfl⟩ := List.mem_map.mp hx
        exact ⟨_, rfl, by simp [gVar, intP], fun _ => by simp [gVar]⟩
      rw [this, filter_int (fun z => decide (z = f)) _ (fun _ => rfl), List.map_map]
      rfl
    have e3 : dictD (.lst (((ableF (sg r.1)).filter fun z => decide (z = f)).map fun z => .tup [.int z, .int 0])) = some (.dct (encK (initF f (sg r.1)))) := by
      unfold initF
      rcases init_cases f (sg r.1) hf with h | h <;> rw [h] <;> rfl
    have l2 : ((ableF (sg r.1)).filter fun z => decide (z = f)).length ≤ 100000 := Nat.le_trans (List.length_filter_le _ _) la
    have e1' := e1 x5
    rw [show ((0 : Nat) : Int) = 0 from rfl] at e1'
    simp [gVar, e1', la, e2, e3, l2]
  · have hk' : ¬ ((k : Int) = 0) := by omega
    have e2 := next_ok (best := best) (able := ableF (sg r.1)) (by omega) (by have := ableF_len (sg r.1); omega) q
    simp [gVar, e1, la, hk, hk', e2]
theorem mb_rest {f : Int} (hf : f = 1 ∨ f = -1) (x0 : Option D) (q : PenS) : ∀ (rs : List (Int × Int)) (k : Nat) (best : List (Int × Int)) (x3 x4 x5 x6 : Option D), 0 < k → best.length ≤ 2 → ∃ y3 y4 y5, forL (.tp [3, 4]) mbB (enumF k (rs.map encR)) [x0, some (.int f), some (.dct (encK best)), x3, x4, x5, x6] q =
    .nx [x0, some (.int f), some (.dct (encK ((sgs rs).foldl (fun best y => nextF best (ableF y)) best))), y3, y4, y5, x6] q
  | [], k, best, x3, x4, x5, x6, _, _ => ⟨x3, x4, x5, rfl⟩
  | r :: rs, k, best, x3, x4, x5, x6, hk, hb => by
    have hs := mb_step hf hb k r x0 x5 x6 q
    rw [if_neg (by omega)] at hs
    obtain ⟨y3, y4, y5, ih⟩ := mb_rest hf x0 q rs (k + 1) (nextF best (ableF (sg r.1))) (some (.int (k : Nat))) (some (encR r)) (some (.lst ((ableF (sg r.1)).map D.int))) x6 (by omega) (nextF_able _ _)
    exact ⟨y3, y4, y5, (forL_cons (ρ1 := [x0, some (.int f), some (.dct (encK best)), some (.int (k : Nat)), some (encR r), x5, x6]) rfl hs).trans ih⟩
theorem initF_len (f x : Int) : (initF f x).length ≤ 2 := by
  unfold initF
  rw [List.length_map]
  exact Nat.le_trans (List.length_filter_le _ _) (ableF_len x)
theorem mostG_len (f : Int) : ∀ s : List Int, (mostG f s).length ≤ 2
  | [] => Nat.zero_le _
  | x :: r => by
    have key : ∀ (r : List Int) (b : List (Int × Int)), b.length ≤ 2 → (r.foldl (fun best y => nextF best (ableF y)) b).length ≤ 2 := by
      intro r
      induction r with
      | nil => intro b h; exact h
      | cons y r ih => intro b _; exact ih _ (nextF_able _ _)
    exact key r _ (initF_len f x)
theorem most_ok {f : Int} (hf : f = 1 ∨ f = -1) {rs : List (Int × Int)} (h1 : 1 ≤ rs.length) (hl : rs.length ≤ 1000) (q : PenS) : g_most_by [encW rs, .int f] q = .ok (mostR (mostG f (sgs rs))) q := by
  have run : g_most_by [encW rs, .int f] q = (b_most_by [some (encW rs), some (.int f), none, none, none, none, none] q).fn := rfl
  rw [run]
  have e0 : ∃ y3 y4 y5, sFor (.tp [3, 4]) (g1 enumTD (mCons (gVar 0) mNil)) mbB [some (encW rs), some (.int f), some (.dct []), none, none, none, none] q = .nx [some (encW rs), some (.int f), some (.dct (encK (mostG f (sgs rs)))), y3, y4, y5, none] q := by
    have et : enumTD [encW rs] = some (enumF 0 (rs.map encR)) := by rw [← enumL_eq]; rfl
    cases rs with
    | nil => simp at h1
    | cons r t =>
      have hs := mb_step hf (best := []) (by decide) 0 r (some (encW (r :: t))) none none q
      rw [if_pos rfl] at hs
      obtain ⟨y3, y4, y5, ih⟩ := mb_rest hf (some (encW (r :: t))) q t 1 (initF f (sg r.1)) (some (.int (0 : Nat))) (some (encR r)) (some (.lst ((ableF (sg r.1)).map D.int))) none (by decide) (initF_len _ _)
      refine ⟨y3, y4, y5, ?_⟩
      rw [e_sFor]
      have e1 : g1 enumTD (mCons (gVar 0) mNil) [some (encW (r :: t)), some (.int f), some (.dct []), none, none, none, none] q = .ok (enumF 0 ((r :: t).map encR)) q := by
        simp only [e_g1, e_mCons, e_mNil, gVar, List.getElem?_cons_zero, bd_ok, et, lift_some]
      rw [e1, st_ok]
      exact (forL_cons (ρ1 := [some (encW (r :: t)), some (.int f), some (.dct (encK [])), some (.int (0 : Nat)), some (encR r), none, none]) rfl hs).trans ih
  obtain ⟨y3, y4, y5, e0⟩ := e0
  show (sSeq (sSet 2 (gC (.dct []))) (sSeq (sFor (.tp [3, 4]) (g1 enumTD (mCons (gVar 0) mNil)) mbB) (sRet (gIf (g1 boolD (g2 gtD (g1 lenKD (mCons (gVar 2) mNil)) (gC (.int 0)))) (g1 maxD (mCons (gLc [6] (g1 keysD (gVar 2)) (.nm 6) gYes (g2 getD_ (gVar 2) (gVar 6))) mNil)) (gC .non)))) _ q).fn = _
  generalize hg : mostG f (sgs rs) = best at e0
  have hb : best.length ≤ 2 := by rw [← hg]; exact mostG_len _ _
  have ek : keysD (.dct (encK best)) = some ((best.map (·.1)).map D.int) := by
    show some ((encK best).map fun p => D.int p.1) = _
    unfold encK
    rw [List.map_map, List.map_map]
    rfl
  have e2 : lcM (.nm 6) gYes (g2 getD_ (gVar 2) (gVar 6)) [some (encW rs), some (.int f), some (.dct (encK best)), y3, y4, y5, none] ((best.map (·.1)).map D.int) q = .ok ((best.map fun p => getI best p.1).map D.int) q := by
    have := lcM_map (t := .nm 6) (elt := g2 getD_ (gVar 2) (gVar 6)) (ρ := [some (encW rs), some (.int f), some (.dct (encK best)), y3, y4, y5, none]) (q := q) (f := fun d => match d with | .int o => .int (getI best o) | d => d) (xs := (best.map (·.1)).map D.int) fun x hx => by
      obtain ⟨o, ho, rfl⟩ := List.mem_map.mp hx
      have eg : getD_ (.dct (encK best)) (.int o) = some (.int (getI best o)) := encK_get ho
      exact ⟨_, rfl, by simp [gVar, eg]⟩
    rw [this, List.map_map, List.map_map, List.map_map]
    rfl
  have el : lenKD [.dct (encK best)] = some (.int (best.length : Nat)) := by
    show some (D.int ((encK best).length : Nat)) = _
    unfold encK
    rw [List.length_map]
  simp only [e_sSeq, e_sSet, e_gC, st_ok, sq_nx, List.set_cons_succ, List.set_cons_zero, e0, e_sRet, e_gIf, e_g1, e_g2, e_mCons, e_mNil, gVar, List.getElem?_cons_succ, List.getElem?_cons_zero, bd_ok, el, lift_some, gtD_int, boolD_bl]
  unfold mostR
  by_cases hn : best = []
  · subst hn
    simp
  · have hp : (0 : Int) < (best.length : Int) := by
      have := List.length_pos_iff.mpr hn
      omega
    have em : maxD [.lst ((best.map fun p => getI best p.1).map D.int)] = some (.int (maxI (best.map fun p => getI best p.1))) := maxD_map (by simpa using hn)
    have hz : best.length ≤ 100000 := by omega
    rw [if_neg hn]
    simp only [hp, decide_true, if_true, e_gLc, e_g1, e_mCons, e_mNil, gVar, List.getElem?_cons_succ, List.getElem?_cons_zero, bd_ok, ek, lift_some, e_wipe0, e_wipe1, List.set_cons_succ, List.set_cons_zero, e2, List.length_map, hz, em, st_ok, fn_rt]
end K63
namespace K63
open PySem PySem.Spec PyProof.Rows L2 Dl
def mR (best : List (Int × Int)) : List Int := if best = [] then [] else [maxI (best.map fun p => getI best p.1)]
def grL (s : List Int) : List Int := mR (mostG 1 s) ++ mR (mostG (-1) s)
def grF (s : List Int) : Int := maxI (grL s)
theorem mostR_cases (best : List (Int × Int)) : (best = [] ∧ mostR best = .non ∧ mR best = []) ∨ (∃ m, mostR best = .int m ∧ mR best = [m]) := by
  unfold mostR mR
  by_cases h : best = []
  · exact .inl ⟨h, if_pos h, if_pos h⟩
  · exact .inr ⟨_, if_neg h, if_neg h⟩
theorem greatest_ok {d : D} {rs : List (Int × Int)} (h : Row d rs) (h1 : 1 ≤ rs.length) (h6 : rs.length ≤ 6) (hg : grL (sgs rs) ≠ []) (q : PenS) : g_greatest_changes [d] q = .ok (.int (grF (sgs rs))) q := by
  have run : g_greatest_changes [d] q = (b_greatest_changes [some d, none, none] q).fn := rfl
  rw [run]
  unfold b_greatest_changes
  have e1 := row_ok h h1 h6 q
  have e2 := most_ok (f := 1) (.inl rfl) h1 (rs := rs) (by omega) q
  have e3 := most_ok (f := -1) (.inr rfl) h1 (rs := rs) (by omega) q
  have e4 : lcM (.nm 2) (g1 boolD (g1 notNonD (gVar 2))) (gVar 2) [some d, some (encW rs), none] [mostR (mostG 1 (sgs rs)), mostR (mostG (-1) (sgs rs))] q = .ok ((grL (sgs rs)).map D.int) q := by
    unfold grL
    rcases mostR_cases (mostG 1 (sgs rs)) with ⟨_, a1, a2⟩ | ⟨m, a1, a2⟩ <;> rcases mostR_cases (mostG (-1) (sgs rs)) with ⟨_, b1, b2⟩ | ⟨m', b1, b2⟩ <;> rw [a1, a2, b1, b2] <;> rfl
  have e5 : maxD [.lst ((grL (sgs rs)).map D.int)] = some (.int (grF (sgs rs))) := maxD_map hg
  have e6 : (grL (sgs rs)).length ≤ 100000 := by
    unfold grL
    rcases mostR_cases (mostG 1 (sgs rs)) with ⟨_, a1, a2⟩ | ⟨m, a1, a2⟩ <;> rcases mostR_cases (mostG (-1) (sgs rs)) with ⟨_, b1, b2⟩ | ⟨m', b1, b2⟩ <;> rw [a2, b2] <;> simp
  simp [gVar, e1, e2, e3, e4, e5, e6]
/-! ### the fillings -/
def fillS (s : Int) : List Int := if s ≠ 0 then [s] else [1, -1]
def fillF (out : List (List Int)) (s : Int) : List (List Int) := (fillS s).flatMap fun z => out.map (· ++ [z])
def signedF (s : List Int) : List (List Int) := s.foldl fillF [[]]
def encL (l : List Int) : D := .tup (l.map D.int)
def sgB : MS := (sSeq (sPar 3 4 (gCall 1 g__law_sign (mCons (gVar 2) mNil)) (mLst mNil)) (sSeq (sFor (.nm 5) (g1 seqD (gIf (g1 boolD (g2 neD (gVar 3) (gC (.int 0)))) (mLst (mCons (gVar 3) mNil)) (mLst (mCons (gC (.int 1)) (mCons (g1 negD (gC (.int 1))) mNil))))) (sSet 4 (g2 addD (gVar 4) (gLc [6] (g1 seqD (gVar 1)) (.nm 6) gYes (g2 addD (gVar 6) (mTup (mCons (gVar 5) mNil))))))) (sSet 1 (gVar 4))))
def sgI : MS := (sSet 4 (g2 addD (gVar 4) (gLc [6] (g1 seqD (gVar 1)) (.nm 6) gYes (g2 addD (gVar 6) (mTup (mCons (gVar 5) mNil))))))
theorem addD_lst {xs ys : List D} (h : (xs ++ ys).length ≤ 100000) : addD (.lst xs) (.lst ys) = some (.lst (xs ++ ys)) := if_pos (by rwa [← List.length_append])
theorem addD_tup {xs ys : List D} (h : (xs ++ ys).length ≤ 100000) : addD (.tup xs) (.tup ys) = some (.tup (xs ++ ys)) := if_pos (by rwa [← List.length_append])
theorem sgI_loop {out : List (List Int)} (ho : out.length ≤ 1000) (hl : ∀ l ∈ out, l.length ≤ 1000) (x0 x2 x3 x6 : Option D) (q : PenS) : ∀ (zs : List Int) (acc : List (List Int)) (x5 : Option D), acc.length + zs.length * out.length ≤ 10000 → ∃ y5, forL (.nm 5) sgI (zs.map D.int) [x0, some (.lst (out.map encL)), x2, x3, some (.lst (acc.map encL)), x5, x6] q =
    .nx [x0, some (.lst (out.map encL)), x2, x3, some (.lst ((acc ++ zs.flatMap fun z => out.map (· ++ [z])).map encL)), y5, x6] q
  | [], acc, x5, _ => ⟨x5, by rw [List.flatMap_nil, List.append_nil]; rfl⟩
  | z :: zs, acc, x5, hb => by
    rw [List.length_cons, Nat.add_mul, Nat.one_mul] at hb
    obtain ⟨y5, ih⟩ := sgI_loop ho hl x0 x2 x3 x6 q zs (acc ++ out.map (· ++ [z])) (some (.int z)) (by rw [List.length_append, List.length_map]; omega)
    refine ⟨y5, (forL_cons rfl ?_).trans (ih.trans ?_)⟩
    · have e1 : lcM (.nm 6) gYes (g2 addD (gVar 6) (mTup (mCons (gVar 5) mNil))) [x0, some (.lst (out.map encL)), x2, x3, some (.lst (acc.map encL)), some (.int z), none] (out.map encL) q = .ok ((out.map (· ++ [z])).map encL) q := by
        have := lcM_map (t := .nm 6) (elt := g2 addD (gVar 6) (mTup (mCons (gVar 5) mNil))) (ρ := [x0, some (.lst (out.map encL)), x2, x3, some (.lst (acc.map encL)), some (.int z), none]) (q := q) (f := fun d => match d with | .tup xs => .tup (xs ++ [.int z]) | d => d) (xs := out.map encL) fun x hx => by
          obtain ⟨l, hm, rfl⟩ := List.mem_map.mp hx
          have hh := hl l hm
          have ea : addD (.tup (l.map D.int)) (.tup [.int z]) = some (.tup (l.map D.int ++ [.int z])) := addD_tup (by simp; omega)
          exact ⟨_, rfl, by simp [gVar, encL, ea]⟩
        rw [this, List.map_map, List.map_map]
        congr 1
        apply List.map_congr_left
        intro l _
        show D.tup (l.map D.int ++ [D.int z]) = D.tup ((l ++ [z]).map D.int)
        rw [List.map_append]
        rfl
      have ho' : out.length ≤ 100000 := by omega
      have e2 : addD (.lst (acc.map encL)) (.lst ((out.map (· ++ [z])).map encL)) = some (.lst ((acc ++ out.map (· ++ [z])).map encL)) := by
        rw [addD_lst (by rw [List.length_append, List.length_map, List.length_map, List.length_map]; omega), List.map_append]
      unfold sgI
      simp only [e_sSet, e_g2, e_gLc, e_g1, gVar, List.getElem?_cons_succ, List.getElem?_cons_zero, bd_ok, seqD_lst, lift_some, e_wipe0, e_wipe1, List.set_cons_succ, List.set_cons_zero, e1, List.length_map, ho', if_true, e2, st_ok]
    · rw [List.flatMap_cons, List.append_assoc]
theorem fillF_len (out : List (List Int)) (s : Int) : (fillF out s).length ≤ 2 * out.length := by
  unfold fillF fillS
  split
  · rw [List.flatMap_cons, List.flatMap_nil, List.append_nil, List.length_map]; omega
  · rw [List.flatMap_cons, List.flatMap_cons, List.flatMap_nil, List.append_nil, List.length_append, List.length_map, List.length_map]; omega
theorem fillF_mem {out : List (List Int)} {n : Nat} (h : ∀ l ∈ out, l.length = n) (s : Int) : ∀ l ∈ fillF out s, l.length = n + 1 := by
  intro l hl
  obtain ⟨z, _, hz⟩ := List.mem_flatMap.mp hl
  obtain ⟨l', h', rfl⟩ := List.mem_map.mp hz
  rw [List.length_append, h l' h']
  rfl
theorem sg_loop (x0 x6 : Option D) (q : PenS) : ∀ (rs : List (Int × Int)) (out : List (List Int)) (n : Nat) (x2 x3 x4 x5 : Option D), out.length * 2 ^ rs.length ≤ 1000 → (∀ l ∈ out, l.length = n) → n + rs.length ≤ 1000 → ∃ y2 y3 y4 y5, forL (.nm 2) sgB (rs.map encR) [x0, some (.lst (out.map encL)), x2, x3, x4, x5, x6] q =
    .nx [x0, some (.lst (((sgs rs).foldl fillF out).map encL)), y2, y3, y4, y5, x6] q
  | [], out, n, x2, x3, x4, x5, _, _, _ => ⟨x2, x3, x4, x5, rfl⟩
  | r :: rs, out, n, x2, x3, x4, x5, hb, hm, hn => by
    rw [List.length_cons] at hb hn
    have hpow : 2 ^ (rs.length + 1) = 2 ^ rs.length * 2 := Nat.pow_succ ..
    have hpos : 1 ≤ 2 ^ rs.length := Nat.one_le_two_pow
    have ho : out.length ≤ 500 := by
      have : out.length * 2 ≤ out.length * 2 ^ (rs.length + 1) := Nat.mul_le_mul_left _ (by omega)
      omega
    have hf := fillF_len out (sg r.1)
    obtain ⟨y5, e1⟩ := sgI_loop (out := out) (by omega) (fun l h => by rw [hm l h]; omega) x0 (some (encR r)) (some (.int (sg r.1))) x6 q (fillS (sg r.1)) [] x5 (by
      have : (fillS (sg r.1)).length ≤ 2 := by unfold fillS; split <;> simp
      have : (fillS (sg r.1)).length * out.length ≤ 2 * out.length := Nat.mul_le_mul_right _ this
      rw [List.length_nil]
      omega)
    obtain ⟨z2, z3, z4, z5, ih⟩ := sg_loop x0 x6 q rs (fillF out (sg r.1)) (n + 1) (some (encR r)) (some (.int (sg r.1))) (some (.lst ((fillF out (sg r.1)).map encL))) y5 (by
      have : (fillF out (sg r.1)).length * 2 ^ rs.length ≤ 2 * out.length * 2 ^ rs.length := Nat.mul_le_mul_right _ hf
      have e : 2 * out.length * 2 ^ rs.length = out.length * 2 ^ (rs.length + 1) := by
        rw [hpow, Nat.mul_comm (2 ^ rs.length) 2, ← Nat.mul_assoc, Nat.mul_comm 2 out.length]
      omega) (fillF_mem hm _) (by omega)
    refine ⟨z2, z3, z4, z5, (forL_cons rfl ?_).trans ih⟩
    have es := lsign_ok r.1 r.2 q
    have es' : ∀ q, g__law_sign [encR r] q = .ok (.int (sg r.1)) q := fun q => lsign_ok r.1 r.2 q
    have ei : ∀ q, g1 seqD (gIf (g1 boolD (g2 neD (gVar 3) (gC (.int 0)))) (mLst (mCons (gVar 3) mNil)) (mLst (mCons (gC (.int 1)) (mCons (g1 negD (gC (.int 1))) mNil)))) [x0, some (.lst (out.map encL)), some (encR r), some (.int (sg r.1)), some (.lst []), x5, x6] q = .ok ((fillS (sg r.1)).map D.int) q := fun q => by
      unfold fillS
      by_cases h : sg r.1 = 0
      · simp [gVar, h]
      · simp [gVar, h]
    have e1' : forL (.nm 5) sgI ((fillS (sg r.1)).map D.int) [x0, some (.lst (out.map encL)), some (encR r), some (.int (sg r.1)), some (.lst []), x5, x6] q =
      .nx [x0, some (.lst (out.map encL)), some (encR r), some (.int (sg r.1)), some (.lst ((fillF out (sg r.1)).map encL)), y5, x6] q := e1
    show (sSeq (sPar 3 4 (gCall 1 g__law_sign (mCons (gVar 2) mNil)) (mLst mNil)) (sSeq (sFor (.nm 5) (g1 seqD (gIf (g1 boolD (g2 neD (gVar 3) (gC (.int 0)))) (mLst (mCons (gVar 3) mNil)) (mLst (mCons (gC (.int 1)) (mCons (g1 negD (gC (.int 1))) mNil))))) sgI) (sSet 1 (gVar 4)))) _ q = _
    rw [e_sSeq, e_sPar]
    simp only [e_gCall, e_mCons, e_mNil, gVar, List.set_cons_succ, List.set_cons_zero, List.getElem?_cons_succ, List.getElem?_cons_zero, bd_ok, List.length_cons, List.length_nil, if_true, Nat.zero_add, es', st_ok, e_mLst, Nat.zero_le, lift_some, sq_nx, e_sSeq, e_sFor, e_sSet]
    rw [ei q, st_ok, e1', sq_nx]
    simp only [e_sSet, gVar, List.getElem?_cons_succ, List.getElem?_cons_zero, st_ok, List.set_cons_succ, List.set_cons_zero]
theorem signed_ok {rs : List (Int × Int)} (h6 : rs.length ≤ 6) (q : PenS) : g__law_signed [encW rs] q = .ok (.lst ((signedF (sgs rs)).map encL)) q := by
  have run : g__law_signed [encW rs] q = (b__law_signed [some (encW rs), none, none, none, none, none, none] q).fn := rfl
  rw [run]
  have hp : 2 ^ rs.length ≤ 2 ^ 6 := Nat.pow_le_pow_right (by decide) h6
  obtain ⟨y2, y3, y4, y5, e⟩ := sg_loop (some (encW rs)) none q rs [[]] 0 none none none none (by show 1 * 2 ^ rs.length ≤ 1000; omega) (by simp) (by omega)
  have e' : forL (.nm 2) sgB (rs.map encR) [some (encW rs), some (.lst [.tup []]), none, none, none, none, none] q = .nx [some (encW rs), some (.lst ((signedF (sgs rs)).map encL)), y2, y3, y4, y5, none] q := e
  show (sSeq (sSet 1 (mLst (mCons (mTup mNil) mNil))) (sSeq (sFor (.nm 2) (g1 seqD (gVar 0)) sgB) (sRet (gVar 1))) _ q).fn = _
  simp [e', gVar]
theorem signed_len (s : List Int) : ∀ (out : List (List Int)) (n : Nat), (∀ l ∈ out, l.length = n) → ∀ l ∈ s.foldl fillF out, l.length = n + s.length := by
  induction s with
  | nil => intro out n h l hl; exact h l hl
  | cons x r ih =>
    intro out n h l hl
    rw [ih (fillF out x) (n + 1) (fillF_mem h x) l hl, List.length_cons]
    omega
theorem signed_cnt (s : List Int) : ∀ out : List (List Int), (s.foldl fillF out).length ≤ out.length * 2 ^ s.length := by
  induction s with
  | nil => intro out; simp
  | cons x r ih =>
    intro out
    rw [List.foldl_cons, List.length_cons, Nat.pow_succ]
    refine Nat.le_trans (ih _) ?_
    have := Nat.mul_le_mul_right (2 ^ r.length) (fillF_len out x)
    rw [Nat.mul_comm (2 ^ r.length) 2, ← Nat.mul_assoc, Nat.mul_comm out.length 2]
    exact this
def highF (s : List Int) : Int := maxI ((signedF s).map fun l => ((lowF l : Nat) : Int))
end K63
namespace K63
open PySem PySem.Spec PyProof.Rows L2 Dl
/-! ### the facts about signs, looked through one by one -/
def insI (x : Int) : List Int → List Int
  | [] => [x]
  | y :: r => if x ≤ y then x :: y :: r else y :: insI x r
def isoI : List Int → List Int
  | [] => []
  | x :: r => insI x (isoI r)
theorem insI_perm (x : Int) : ∀ l, (insI x l).Perm (x :: l)
  | [] => .refl _
  | y :: r => by
    unfold insI
    split
    · exact .refl _
    · exact ((insI_perm x r).cons y).trans (.swap x y r)
theorem isoI_perm : ∀ l, (isoI l).Perm l
  | [] => .refl _
  | x :: r => (insI_perm x _).trans ((isoI_perm r).cons x)
theorem insI_mem {x z : Int} {l : List Int} (h : z ∈ insI x l) : z = x ∨ z ∈ l := by
  have := (insI_perm x l).mem_iff.mp h
  simpa using this
theorem insI_srt (x : Int) : ∀ l : List Int, l.Pairwise (· ≤ ·) → (insI x l).Pairwise (· ≤ ·)
  | [], _ => by unfold insI; simp
  | y :: r, h => by
    unfold insI
    have h' := List.pairwise_cons.mp h
    split
    · rename_i hx
      refine List.pairwise_cons.mpr ⟨fun z hz => ?_, h⟩
      rcases List.mem_cons.mp hz with rfl | hz
      · exact hx
      · exact Int.le_trans hx (h'.1 z hz)
    · refine List.pairwise_cons.mpr ⟨fun z hz => ?_, insI_srt x r h'.2⟩
      rcases insI_mem hz with rfl | hz
      · omega
      · exact h'.1 z hz
theorem isoI_srt : ∀ l : List Int, (isoI l).Pairwise (· ≤ ·)
  | [] => .nil
  | x :: r => insI_srt x _ (isoI_srt r)
theorem srtI_iso (l : List Int) : srtI l = isoI l := (srtI_eq (isoI_perm l) (isoI_srt l)).symm
def someC (best : List (Int × Int)) (s : Int) : List Int := (isoI (best.map (·.1))).map fun o => getI best o + if o ≠ s then 1 else 0
def stepC (best : List (Int × Int)) (out : List (Int × Int)) (s : Int) : List (Int × Int) := match someC best s with
  | [] => out
  | a :: r => putI out s (maxI (a :: r))
theorem stepC_eq (best out : List (Int × Int)) (s : Int) : stepF best out s = stepC best out s := by
  have e : someF best s = someC best s := by unfold someF someC; rw [srtI_iso]
  unfold stepF stepC
  rw [e]
  cases someC best s with
  | nil => rfl
  | cons a r => exact if_neg (by simp)
def nextC (best : List (Int × Int)) (able : List Int) : List (Int × Int) := able.foldl (stepC best) []
theorem nextC_eq (best : List (Int × Int)) (able : List Int) : nextF best able = nextC best able := by
  unfold nextF nextC
  rw [show stepF best = stepC best from funext fun o => funext fun s => stepC_eq best o s]
def mostC (f : Int) : List Int → List (Int × Int)
  | [] => []
  | x :: r => r.foldl (fun best y => nextC best (ableF y)) (initF f x)
theorem mostC_eq (f : Int) (s : List Int) : mostG f s = mostC f s := by
  cases s with
  | nil => rfl
  | cons x r =>
    unfold mostG mostC
    rw [show (fun best y => nextF best (ableF y)) = fun best y => nextC best (ableF y) from funext fun b => funext fun y => nextC_eq b _]
def grC (s : List Int) : List Int := mR (mostC 1 s) ++ mR (mostC (-1) s)
theorem grC_eq (s : List Int) : grL s = grC s := by
  unfold grL grC
  rw [mostC_eq, mostC_eq]
def chess : Bool → List Int → List Int
  | _, [] => []
  | b, x :: r => (if b then -x else x) :: chess (!b) r
def neg (s : List Int) : List Int := s.map fun x => -x
def factB (s : List Int) : Bool :=
  let lo : Int := (lowF s : Nat)
  let hi := highF s
  let ns := neg s
  let rv := s.reverse
  !(grC s).isEmpty && decide (maxI (grC s) = hi) && decide (lowF ns = lowF s) && decide (maxI (grC ns) = hi) && decide (firstF ns = - firstF s) && decide (lowF rv = lowF s) && decide (maxI (grC rv) = hi) && decide (lo ≤ hi)
    && (decide (firstF s = 0) || decide (((lowF (chess false s) : Nat) : Int) + hi = (s.length : Int) - 1)) && !(grC ns).isEmpty && !(grC rv).isEmpty
def signLs : Nat → List (List Int)
  | 0 => [[]]
  | n + 1 => (signLs n).flatMap fun l => [1 :: l, -1 :: l, 0 :: l]
theorem signLs_mem : ∀ (s : List Int), (∀ x ∈ s, x = 1 ∨ x = -1 ∨ x = 0) → s ∈ signLs s.length
  | [], _ => List.mem_cons_self ..
  | x :: r, h => by
    have ih := signLs_mem r fun y hy => h y (List.mem_cons_of_mem _ hy)
    refine List.mem_flatMap.mpr ⟨r, ih, ?_⟩
    rcases h x (List.mem_cons_self ..) with rfl | rfl | rfl <;> simp
theorem fact1 : (signLs 1).all factB = true := by decide +kernel
theorem fact2 : (signLs 2).all factB = true := by decide +kernel
theorem fact3 : (signLs 3).all factB = true := by decide +kernel
theorem fact4 : (signLs 4).all factB = true := by decide +kernel
theorem fact5 : (signLs 5).all factB = true := by decide +kernel
theorem fact6 : (signLs 6).all factB = true := by decide +kernel
theorem fact_ok {s : List Int} (h : ∀ x ∈ s, x = 1 ∨ x = -1 ∨ x = 0) (h1 : 1 ≤ s.length) (h6 : s.length ≤ 6) : factB s = true := by
  have hm := signLs_mem s h
  have : ∀ n, s.length = n → (signLs n).all factB = true → factB s = true := fun n e f => List.all_eq_true.mp f s (e ▸ hm)
  have hc : s.length = 1 ∨ s.length = 2 ∨ s.length = 3 ∨ s.length = 4 ∨ s.length = 5 ∨ s.length = 6 := by omega
  rcases hc with e | e | e | e | e | e
  · exact this _ e fact1
  · exact this _ e fact2
  · exact this _ e fact3
  · exact this _ e fact4
  · exact this _ e fact5
  · exact this _ e fact6
structure Fact (s : List Int) : Prop where
  g1 : grL s ≠ []
  g2 : grF s = highF s
  n1 : lowF (neg s) = lowF s
  n2 : grF (neg s) = highF s
  n3 : firstF (neg s) = - firstF s
  r1 : lowF s.reverse = lowF s
  r2 : grF s.reverse = highF s
  le : ((lowF s : Nat) : Int) ≤ highF s
  ch : firstF s = 0 ∨ ((lowF (chess false s) : Nat) : Int) + highF s = (s.length : Int) - 1
  gn : grL (neg s) ≠ []
  gr : grL s.reverse ≠ []
theorem Fact.of {s : List Int} (h : ∀ x ∈ s, x = 1 ∨ x = -1 ∨ x = 0) (h1 : 1 ≤ s.length) (h6 : s.length ≤ 6) : Fact s := by
  have f := fact_ok h h1 h6
  unfold factB at f
  simp only [Bool.and_eq_true, Bool.or_eq_true, decide_eq_true_eq, Bool.not_eq_true', List.isEmpty_eq_false_iff] at f
  obtain ⟨⟨⟨⟨⟨⟨⟨⟨⟨⟨a1, a2⟩, a3⟩, a4⟩, a5⟩, a6⟩, a7⟩, a8⟩, a9⟩, a10⟩, a11⟩ := f
  have e : ∀ s, grF s = maxI (grC s) := fun s => by unfold grF; rw [grC_eq]
  exact ⟨by rw [grC_eq]; exact a1, (e s).trans a2, a3, (e _).trans a4, a5, a6, (e _).trans a7, a8, a9, by rw [grC_eq]; exact a10, by rw [grC_eq]; exact a11⟩
end K63
namespace K63
open PySem PySem.Spec PyProof.Rows L2 Dl
/-- a ratio as the law draws it -/
structure Sm (r : Int × Int) : Prop where
  lo : Low r
  a0 : -3 ≤ r.1
  a1 : r.1 ≤ 3
  b1 : r.2 ≤ 3
theorem q_ok (a b : Int) (h0 : -3 ≤ a) (h1 : a ≤ 3) (h2 : 1 ≤ b) (h3 : b ≤ 3) (q : PenS) : ∃ r, g__law_q [.int a, .int b] q = .ok (encR r) q ∧ Sm r := by
  have ha : a = -3 ∨ a = -2 ∨ a = -1 ∨ a = 0 ∨ a = 1 ∨ a = 2 ∨ a = 3 := by omega
  have hb : b = 1 ∨ b = 2 ∨ b = 3 := by omega
  refine ⟨(a.fdiv (Int.gcd a b), b.fdiv (Int.gcd a b)), ?_⟩
  rcases ha with rfl | rfl | rfl | rfl | rfl | rfl | rfl <;> rcases hb with rfl | rfl | rfl <;> exact ⟨rfl, ⟨by decide, by decide, by decide⟩, by decide, by decide, by decide⟩
theorem times_ok {p x : Int × Int} (hp : p = (3, 1) ∨ p = (-3, 1) ∨ p = (1, 2) ∨ p = (-2, 3)) (hx : Sm x) (q : PenS) : ∃ r, g__law_times [encR p, encR x] q = .ok (encR r) q ∧ Low r ∧ sg r.1 = sg p.1 * sg x.1 := by
  obtain ⟨a, b⟩ := x
  obtain ⟨⟨c1, _, c2⟩, c3, c4, c5⟩ := hx
  dsimp only at *
  have ha : a = -3 ∨ a = -2 ∨ a = -1 ∨ a = 0 ∨ a = 1 ∨ a = 2 ∨ a = 3 := by omega
  have hb : b = 1 ∨ b = 2 ∨ b = 3 := by omega
  clear c1 c2 c3 c4 c5
  refine ⟨((p.1 * a).fdiv (Int.gcd (p.1 * a) (p.2 * b)), (p.2 * b).fdiv (Int.gcd (p.1 * a) (p.2 * b))), ?_⟩
  rcases hp with rfl | rfl | rfl | rfl <;> rcases ha with rfl | rfl | rfl | rfl | rfl | rfl | rfl <;> rcases hb with rfl | rfl | rfl <;> exact ⟨rfl, ⟨by decide, by decide, by decide⟩, by decide⟩
/-- the pen, and how often it drew at most -/
def Pn (n : Nat) (q : PenS) : Prop := PenInv q ∧ q.count ≤ (n : Int)
theorem Pn.mono {n m : Nat} {q : PenS} (h : Pn n q) (hm : n ≤ m) : Pn m q := ⟨h.1, by have := h.2; omega⟩
theorem dr_ok {many : Int} (h0 : 0 < many) (h1 : many < 1000000) {n : Nat} {q : PenS} (P : Pn n q) (hn : n < 1000000) : ∃ d q', g__law_draw [.pen, .int many] q = .ok (.int d) q' ∧ Pn (n + 1) q' ∧ 0 ≤ d ∧ d < many := by
  obtain ⟨d, q', e, I, c, d0, d1⟩ := draw_ok h0 h1 P.1 (by have := P.2; omega)
  exact ⟨d, q', e, ⟨I, by have := P.2; omega⟩, d0, d1⟩
theorem pick_ok {xs : List D} (hx : xs ≠ []) (hl : xs.length < 1000) {n : Nat} {q : PenS} (P : Pn n q) (hn : n < 1000000) : ∃ x q', g__law_pick [.pen, .lst xs] q = .ok x q' ∧ x ∈ xs ∧ Pn (n + 1) q' := by
  have hp := List.length_pos_iff.mpr hx
  obtain ⟨d, q', e, P', d0, d1⟩ := dr_ok (many := (xs.length : Nat)) (by omega) (by omega) P hn
  have hd : d.toNat < xs.length := by omega
  refine ⟨xs[d.toNat], q', ?_, List.getElem_mem hd, P'⟩
  have run : g__law_pick [.pen, .lst xs] q = (b__law_pick [some .pen, some (.lst xs)] q).fn := rfl
  rw [run]
  unfold b__law_pick
  have ea : atI xs d = some xs[d.toNat] := atI_get d0 (List.getElem?_eq_getElem hd)
  simp [gVar, e, ea]
theorem handed_ok {r : Int × Int} (hr : Sm r) {n : Nat} {q : PenS} (P : Pn n q) (hn : n < 900000) : ∃ d q', g__law_handed [.pen, encR r] q = .ok d q' ∧ Item d r ∧ Pn (n + 3) q' := by
  obtain ⟨a, b⟩ := r
  obtain ⟨⟨c1, _, c2⟩, c3, c4, c5⟩ := hr
  dsimp only at *
  have run : ∀ q, g__law_handed [.pen, encR (a, b)] q = (b__law_handed [some .pen, some (encR (a, b)), none] q).fn := fun _ => rfl
  have e0 : atI [D.int a, D.int b] 0 = some (.int a) := rfl
  have e1 : atI [D.int a, D.int b] 1 = some (.int b) := rfl
  have rest : ∀ {n : Nat} {q : PenS}, Pn n q → n < 950000 → ∃ d q', ((sSeq (sSet 2 (gCall 2 g__law_pick (mCons (gVar 0) (mCons (mLst (mCons (gC (.int 1)) (mCons (gC (.int 1)) (mCons (gC (.int 2)) (mCons (gC (.int 5)) mNil))))) mNil)))) (sRet (gCall 2 g__law_pick (mCons (gVar 0) (mCons (mLst (mCons (mTup (mCons (g2 mulD (g2 ixD (gVar 1) (gC (.int 0))) (gVar 2)) (mCons (g2 mulD (g2 ixD (gVar 1) (gC (.int 1))) (gVar 2)) mNil))) (mCons (mLst (mCons (g2 mulD (g2 ixD (gVar 1) (gC (.int 0))) (gVar 2)) (mCons (g2 mulD (g2 ixD (gVar 1) (gC (.int 1))) (gVar 2)) mNil))) mNil))) mNil))))) [some .pen, some (encR (a, b)), none] q).fn = .ok d q' ∧ Item d (a, b) ∧ Pn (n + 2) q' := fun {n q} P hn => by
    obtain ⟨x, q1, f1, m1, P1⟩ := pick_ok (xs := [.int 1, .int 1, .int 2, .int 5]) (by simp) (by simp) P (by omega)
    obtain ⟨k, hk, k0, k1⟩ : ∃ k : Int, x = .int k ∧ 0 < k ∧ k < 10 := by
      simp only [List.mem_cons, List.not_mem_nil, or_false] at m1
      rcases m1 with rfl | rfl | rfl | rfl
      · exact ⟨1, rfl, by decide, by decide⟩
      · exact ⟨1, rfl, by decide, by decide⟩
      · exact ⟨2, rfl, by decide, by decide⟩
      · exact ⟨5, rfl, by decide, by decide⟩
    subst hk
    obtain ⟨y, q2, f2, m2, P2⟩ := pick_ok (xs := [.tup [.int (a * k), .int (b * k)], .lst [.int (a * k), .int (b * k)]]) (by simp) (by simp) P1 (by omega)
    have g1 : mulD (.int a) (.int k) = some (.int (a * k)) := mulD_int 10 10 (by omega) (by omega)
    have g2 : mulD (.int b) (.int k) = some (.int (b * k)) := mulD_int 10 10 (by omega) (by omega)
    refine ⟨y, q2, by simp [gVar, f1, f2, e0, e1, g1, g2], ?_, P2⟩
    simp only [List.mem_cons, List.not_mem_nil, or_false] at m2
    rcases m2 with rfl | rfl
    · exact .tup k0 (by omega)
    · exact .lst k0 (by omega)
  by_cases hb : b = 1
  · subst hb
    obtain ⟨d, q1, f1, P1, d0, d1⟩ := dr_ok (many := 2) (by decide) (by decide) P (by omega)
    by_cases hd : d = 0
    · subst hd
      refine ⟨.int a, q1, ?_, .int a, P1.mono (by omega)⟩
      rw [run]
      unfold b__law_handed
      simp [gVar, e0, e1, f1]
    · obtain ⟨y, q2, f2, i2, P2⟩ := rest P1 (by omega)
      refine ⟨y, q2, ?_, i2, P2.mono (by omega)⟩
      rw [run, ← f2]
      unfold b__law_handed
      rw [e_sSeq]
      congr 1
      simp [gVar, e1, f1, hd]
  · obtain ⟨y, q2, f2, i2, P2⟩ := rest P (by omega)
    refine ⟨y, q2, ?_, i2, P2.mono (by omega)⟩
    rw [run, ← f2]
    unfold b__law_handed
    rw [e_sSeq]
    congr 1
    simp [gVar, e1, hb]
theorem ratio_ok {n : Nat} {q : PenS} (P : Pn n q) (hn : n < 900000) : ∃ r q', g__law_ratio [.pen, .int 3] q = .ok (encR r) q' ∧ Sm r ∧ Pn (n + 2) q' := by
  obtain ⟨d, q1, f1, P1, d0, d1⟩ := dr_ok (many := 7) (by decide) (by decide) P (by omega)
  obtain ⟨x, q2, f2, m2, P2⟩ := pick_ok (xs := [.int 1, .int 1, .int 2, .int 3]) (by simp) (by simp) P1 (by omega)
  obtain ⟨k, hk, k0, k1⟩ : ∃ k : Int, x = .int k ∧ 1 ≤ k ∧ k ≤ 3 := by
    simp only [List.mem_cons, List.not_mem_nil, or_false] at m2
    rcases m2 with rfl | rfl | rfl | rfl
    · exact ⟨1, rfl, by decide, by decide⟩
    · exact ⟨1, rfl, by decide, by decide⟩
    · exact ⟨2, rfl, by decide, by decide⟩
    · exact ⟨3, rfl, by decide, by decide⟩
  subst hk
  obtain ⟨r, f3, h3⟩ := q_ok (d - 3) k (by omega) (by omega) k0 k1 q2
  refine ⟨r, q2, ?_, h3, P2⟩
  have run : g__law_ratio [.pen, .int 3] q = (b__law_ratio [some .pen, some (.int 3)] q).fn := rfl
  rw [run]
  unfold b__law_ratio
  have hm : mulD (.int 2) (.int 3) = some (.int 6) := rfl
  simp [gVar, hm, f1, f2, f3]
/-- one by one -/
inductive F2 {α β : Type} (R : α → β → Prop) : List α → List β → Prop
  | nil : F2 R [] []
  | cons {a : α} {b : β} {as : List α} {bs : List β} : R a b → F2 R as bs → F2 R (a :: as) (b :: bs)
theorem F2.len {α β : Type} {R : α → β → Prop} : ∀ {as : List α} {bs : List β}, F2 R as bs → as.length = bs.length
  | _, _, .nil => rfl
  | _, _, .cons _ t => by rw [List.length_cons, List.length_cons, t.len]
/-- comprehensions with draws -/
theorem lcM_st {t : Tg} {elt : DEnv → M D} {ρ : DEnv} {R : D → D → Prop} : ∀ {xs : List D} {n : Nat} {q : PenS}, (∀ x ∈ xs, ∀ n q, Pn n q → n < 800000 → ∃ ρ1, tgD t x ρ = some ρ1 ∧ ∃ y q', elt ρ1 q = .ok y q' ∧ R x y ∧ Pn (n + 3) q') → Pn n q → n + 3 * xs.length < 800000 →
    ∃ ys q', lcM t gYes elt ρ xs q = .ok ys q' ∧ F2 R xs ys ∧ Pn (n + 3 * xs.length) q'
  | [], n, q, _, P, _ => ⟨[], q, rfl, .nil, P⟩
  | x :: xs, n, q, h, P, hn => by
    rw [List.length_cons] at hn
    obtain ⟨ρ1, h1, y, q1, h2, h3, P1⟩ := h x (List.mem_cons_self ..) n q P (by omega)
    obtain ⟨ys, q2, e, f, P2⟩ := lcM_st (xs := xs) (fun z hz => h z (List.mem_cons_of_mem _ hz)) P1 (by omega)
    refine ⟨y :: ys, q2, ?_, .cons h3 f, P2.mono (by rw [List.length_cons]; omega)⟩
    unfold lcM
    rw [h1]
    show (noX (elt ρ1) q).bd _ = _
    have e2 : noX (elt ρ1) q = .ok y q1 := by unfold noX; rw [h2]
    rw [e2]
    show (lcM t gYes elt ρ xs q1).bd _ = _
    rw [e]
    rfl
theorem items_of : ∀ {rs : List (Int × Int)} {ys : List D}, (∀ r ∈ rs, Sm r) → F2 (fun x y => ∀ r, x = encR r → Item y r) (rs.map encR) ys → Items ys rs
  | [], _, _, h => by cases h; exact .nil
  | r :: rs, _, hs, h => by
    rw [List.map_cons] at h
    cases h with
    | cons h t => exact .cons (h r rfl) (hs r (List.mem_cons_self ..)).lo (items_of (fun r hr => hs r (List.mem_cons_of_mem _ hr)) t)
theorem given_ok {rs : List (Int × Int)} (hs : ∀ r ∈ rs, Sm r) (h6 : rs.length ≤ 6) {n : Nat} {q : PenS} (P : Pn n q) (hn : n < 700000) : ∃ d q', g__law_given_row [.pen, encW rs] q = .ok d q' ∧ Row d rs ∧ Pn (n + 19) q' := by
  have run : g__law_given_row [.pen, encW rs] q = (b__law_given_row [some .pen, some (encW rs), none] q).fn := rfl
  obtain ⟨ys, q1, e1, f1, P1⟩ := lcM_st (t := .nm 2) (elt := gCall 2 g__law_handed (mCons (gVar 0) (mCons (gVar 2) mNil))) (ρ := [some .pen, some (encW rs), none]) (R := fun x y => ∀ r, x = encR r → Item y r) (xs := rs.map encR) (fun x hx n q P hn => by
    obtain ⟨r, hr, rfl⟩ := List.mem_map.mp hx
    obtain ⟨d, q', e, i, P'⟩ := handed_ok (hs r hr) P (by omega)
    refine ⟨_, rfl, d, q', by simp [gVar, e], ?_, P'⟩
    intro r' hr'
    have : r = r' := by
      obtain ⟨a, b⟩ := r
      obtain ⟨a', b'⟩ := r'
      simp only [encR, D.tup.injEq, List.cons.injEq, D.int.injEq, and_true] at hr'
      rw [hr'.1, hr'.2]
    exact this ▸ i) P (by rw [List.length_map]; omega)
  rw [List.length_map] at P1
  have hl : ys.length = rs.length := by rw [← f1.len, List.length_map]
  obtain ⟨y, q2, e2, m2, P2⟩ := pick_ok (xs := [.tup ys, .lst ys]) (by simp) (by simp) P1 (by omega)
  have run2 : g__law_passed [.pen, .lst ys] q1 = (b__law_passed [some .pen, some (.lst ys)] q1).fn := rfl
  have e3 : g__law_passed [.pen, .lst ys] q1 = .ok y q2 := by
    rw [run2]
    unfold b__law_passed
    have el : listD [.lst ys] = some (.lst ys) := rfl
    simp [gVar, el, e2]
  refine ⟨y, q2, ?_, ⟨ys, ?_, items_of hs f1⟩, P2.mono (by omega)⟩
  · rw [run]
    unfold b__law_given_row
    have hl' : ys.length ≤ 100000 := by omega
    simp [gVar, e1, hl', e3]
  · simpa using m2
end K63
namespace K63
open PySem PySem.Spec PyProof.Rows L2 Dl
def bdB (s : List Int) : Bool := decide (highF s ≤ 5) && decide (-1 ≤ firstF s) && decide (firstF s ≤ 1) && !(signedF s).isEmpty
theorem bd1 : (signLs 1).all bdB = true := by decide +kernel
theorem bd2 : (signLs 2).all bdB = true := by decide +kernel
theorem bd3 : (signLs 3).all bdB = true := by decide +kernel
theorem bd4 : (signLs 4).all bdB = true := by decide +kernel
theorem bd5 : (signLs 5).all bdB = true := by decide +kernel
theorem bd6 : (signLs 6).all bdB = true := by decide +kernel
theorem bd_ok' {s : List Int} (h : ∀ x ∈ s, x = 1 ∨ x = -1 ∨ x = 0) (h1 : 1 ≤ s.length) (h6 : s.length ≤ 6) : highF s ≤ 5 ∧ -1 ≤ firstF s ∧ firstF s ≤ 1 ∧ signedF s ≠ [] := by
  have hm := signLs_mem s h
  have this : ∀ n, s.length = n → (signLs n).all bdB = true → bdB s = true := fun n e f => List.all_eq_true.mp f s (e ▸ hm)
  have hc : s.length = 1 ∨ s.length = 2 ∨ s.length = 3 ∨ s.length = 4 ∨ s.length = 5 ∨ s.length = 6 := by omega
  have hb : bdB s = true := by
    rcases hc with e | e | e | e | e | e
    · exact this _ e bd1
    · exact this _ e bd2
    · exact this _ e bd3
    · exact this _ e bd4
    · exact this _ e bd5
    · exact this _ e bd6
  unfold bdB at hb
  simp only [Bool.and_eq_true, decide_eq_true_eq, Bool.not_eq_true', List.isEmpty_eq_false_iff] at hb
  exact ⟨hb.1.1.1, hb.1.1.2, hb.1.2, hb.2⟩
theorem sgs_signs (rs : List (Int × Int)) : ∀ x ∈ sgs rs, x = 1 ∨ x = -1 ∨ x = 0 := by
  intro x hx
  obtain ⟨r, _, rfl⟩ := List.mem_map.mp hx
  exact sg_cases r.1
theorem sgs_len (rs : List (Int × Int)) : (sgs rs).length = rs.length := by unfold sgs; rw [List.length_map]
theorem shaped3 (a b c : Int) : SeqAt.shaped (.tuple [.int a, .int b, .int c]) = true := by simp [SeqAt.shaped, PyData.canLay0, PyData.canLayAll0, PyData.depth, PyData.depthAll]
theorem ne3 (a b c a' b' c' : Int) (h : a = a' ∧ b = b' ∧ c = c') : neD (.tup [.int a, .int b, .int c]) (.tup [.int a', .int b', .int c']) = some (.bl false) := by
  obtain ⟨rfl, rfl, rfl⟩ := h
  show (if SeqAt.shaped (.tuple [.int a, .int b, .int c]) = true ∧ SeqAt.shaped (.tuple [.int a, .int b, .int c]) = true then some (D.bl (!PyData.eqv (.tuple [.int a, .int b, .int c]) (.tuple [.int a, .int b, .int c]))) else none) = _
  rw [if_pos ⟨shaped3 a b c, shaped3 a b c⟩]
  simp [PyData.eqv, PyData.eqvAll]
theorem neStr (x : Str) (hx : PyData.strOk x = true) : neD (.str x) (.str x) = some (.bl false) := by
  have hs : SeqAt.shaped (.str x) = true := by simp [SeqAt.shaped, PyData.canLay0, PyData.depth, hx]
  show (if SeqAt.shaped (.str x) = true ∧ SeqAt.shaped (.str x) = true then some (D.bl (!PyData.eqv (.str x) (.str x))) else none) = _
  rw [if_pos ⟨hs, hs⟩]
  simp [PyData.eqv]
theorem strs3 : ∀ a ∈ ([0, 1, 2, 3, 4, 5] : List Int), ∀ b ∈ ([0, 1, 2, 3, 4, 5] : List Int), ∀ c ∈ ([-1, 0, 1] : List Int), PyData.strOk (PyData.shown (.tuple [.int a, .int b, .int c])) = true := by decide +kernel
theorem repr3 {a b c : Int} (h1 : 0 ≤ a ∧ a ≤ 5) (h2 : 0 ≤ b ∧ b ≤ 5) (h3 : -1 ≤ c ∧ c ≤ 1) : ∃ x, reprD [.tup [.int a, .int b, .int c]] = some (.str x) ∧ neD (.str x) (.str x) = some (.bl false) := by
  have l1 := log_lt (i := a) (k := 100) (by omega) (by decide)
  have l2 := log_lt (i := b) (k := 100) (by omega) (by decide)
  have l3 := log_lt (i := c) (k := 100) (by omega) (by decide)
  refine ⟨PyData.shown (.tuple [.int a, .int b, .int c]), ?_, neStr _ (strs3 a (by simp; omega) b (by simp; omega) c (by simp; omega))⟩
  show (if PyData.showable (.tuple [.int a, .int b, .int c]) = true ∧ SeqAt.shaped (.tuple [.int a, .int b, .int c]) = true ∧ costP (.tuple [.int a, .int b, .int c]) ≤ 1000000 then some (PyData.shown (.tuple [.int a, .int b, .int c])) else none).map D.str = _
  have hw : PyData.showable (.tuple [.int a, .int b, .int c]) = true := by
    simp [PyData.showable, PyData.showableAll]
    omega
  rw [if_pos ⟨hw, shaped3 a b c, by simp only [costP, costPs]; omega⟩]
  rfl
theorem row_items : ∀ {rs : List (Int × Int)}, (∀ r ∈ rs, Low r) → Items (rs.map encR) rs
  | [], _ => .nil
  | r :: rs, h => by
    have hi : Item (encR r) r := by
      have := Item.tup (a := r.1) (b := r.2) (k := 1) (by decide) (by decide)
      rw [Int.mul_one, Int.mul_one] at this
      exact this
    exact .cons hi (h r (List.mem_cons_self ..)) (row_items fun r hr => h r (List.mem_cons_of_mem _ hr))
theorem row_self {rs : List (Int × Int)} (h : ∀ r ∈ rs, Low r) : Row (encW rs) rs := ⟨_, .inl rfl, row_items h⟩
theorem sg_neg (a : Int) : sg (-a) = - sg a := by
  unfold sg
  by_cases h1 : 0 < a
  · rw [if_pos h1, if_neg (by omega), if_pos (by omega)]
  · rw [if_neg h1]
    by_cases h2 : a < 0
    · rw [if_pos h2, if_pos (by omega)]; rfl
    · rw [if_neg h2, if_neg (by omega), if_neg (by omega)]; rfl
/-- led rows -/
theorem led_ok {p : Int × Int} (hp : p = (3, 1) ∨ p = (-3, 1) ∨ p = (1, 2) ∨ p = (-2, 3)) {ρ : DEnv} {q : PenS} (h12 : ∀ x, (ρ.set 6 (some x))[12]? = some (some (encR p))) (h6 : ∀ x, (ρ.set 6 (some x))[6]? = some (some x)) (hl : 6 < ρ.length) : ∀ {rs : List (Int × Int)}, (∀ r ∈ rs, Sm r) → ∃ rs' : List (Int × Int), lcM (.nm 6) gYes (gCall 2 g__law_times (mCons (gVar 12) (mCons (gVar 6) mNil))) ρ (rs.map encR) q = .ok (rs'.map encR) q ∧ (∀ r ∈ rs', Low r) ∧ sgs rs' = (sgs rs).map (sg p.1 * ·) ∧ rs'.length = rs.length
  | [], _ => ⟨[], rfl, nofun, rfl, rfl⟩
  | r :: rs, hs => by
    obtain ⟨rs', e, h1, h2, h3⟩ := led_ok hp (q := q) h12 h6 hl (rs := rs) fun r hr => hs r (List.mem_cons_of_mem _ hr)
    obtain ⟨r', f, g1, g2⟩ := times_ok hp (hs r (List.mem_cons_self ..)) q
    refine ⟨r' :: rs', ?_, ?_, ?_, by rw [List.length_cons, List.length_cons, h3]⟩
    · rw [List.map_cons]
      unfold lcM
      have et : tgD (.nm 6) (encR r) ρ = some (ρ.set 6 (some (encR r))) := rfl
      rw [et]
      show (noX (gCall 2 g__law_times (mCons (gVar 12) (mCons (gVar 6) mNil)) (ρ.set 6 (some (encR r)))) q).bd _ = _
      have e1 : gCall 2 g__law_times (mCons (gVar 12) (mCons (gVar 6) mNil)) (ρ.set 6 (some (encR r))) q = .ok (encR r') q := by
        simp only [e_gCall, e_mCons, e_mNil, gVar, h12, h6, bd_ok, List.length_cons, List.length_nil, if_true, f]
      have e2 : noX (gCall 2 g__law_times (mCons (gVar 12) (mCons (gVar 6) mNil)) (ρ.set 6 (some (encR r)))) q = .ok (encR r') q := by unfold noX; rw [e1]
      rw [e2]
      show (lcM (.nm 6) gYes (gCall 2 g__law_times (mCons (gVar 12) (mCons (gVar 6) mNil))) ρ (rs.map encR) q).bd _ = _
      rw [e]
      rfl
    · intro x hx
      rcases List.mem_cons.mp hx with rfl | hx
      · exact g1
      · exact h1 x hx
    · unfold sgs at h2 ⊢
      rw [List.map_cons, List.map_cons, List.map_cons, h2, g2]
def chR : Bool → List (Int × Int) → List (Int × Int)
  | _, [] => []
  | b, r :: rs => (if b then (-r.1, r.2) else r) :: chR (!b) rs
theorem chR_cons (b : Bool) (r : Int × Int) (rs : List (Int × Int)) : chR b (r :: rs) = (if b then (-r.1, r.2) else r) :: chR (!b) rs := rfl
theorem chess_cons (b : Bool) (x : Int) (r : List Int) : chess b (x :: r) = (if b then -x else x) :: chess (!b) r := rfl
theorem chR_sgs : ∀ (b : Bool) (rs : List (Int × Int)), sgs (chR b rs) = chess b (sgs rs)
  | _, [] => rfl
  | b, r :: rs => by
    have ih := chR_sgs (!b) rs
    unfold sgs at ih ⊢
    rw [chR_cons, List.map_cons, List.map_cons, ih, chess_cons]
    cases b
    · rfl
    · rw [if_pos rfl, if_pos rfl, sg_neg]
theorem chR_len : ∀ (b : Bool) (rs : List (Int × Int)), (chR b rs).length = rs.length
  | _, [] => rfl
  | b, r :: rs => by rw [chR_cons, List.length_cons, List.length_cons, chR_len]
theorem chR_low : ∀ (b : Bool) {rs : List (Int × Int)}, (∀ r ∈ rs, Low r) → ∀ r ∈ chR b rs, Low r
  | _, [], _, r, h => nomatch h
  | b, x :: rs, hs, r, h => by
    rw [chR_cons] at h
    rcases List.mem_cons.mp h with rfl | h
    · have hx := hs x (List.mem_cons_self ..)
      cases b
      · exact hx
      · obtain ⟨h1, h2, h3⟩ := hx
        exact ⟨h1, h2, by show Nat.gcd (-x.1).natAbs x.2.natAbs = 1; rw [Int.natAbs_neg]; exact h3⟩
    · exact chR_low _ (fun r hr => hs r (List.mem_cons_of_mem _ hr)) r h
def odd (k : Nat) : Bool := !decide ((k : Int).fmod 2 = 0)
theorem odd_succ (k : Nat) : odd (k + 1) = !odd k := by
  unfold odd
  rw [Int.fmod_eq_emod_of_nonneg _ (by decide), Int.fmod_eq_emod_of_nonneg _ (by decide), Bool.not_not]
  by_cases h : (k : Int) % 2 = 0
  · have : ¬ (((k + 1 : Nat) : Int) % 2 = 0) := by omega
    rw [decide_eq_true h, decide_eq_false this]
    rfl
  · have : ((k + 1 : Nat) : Int) % 2 = 0 := by omega
    rw [decide_eq_false h, decide_eq_true this]
    rfl
def chE : DEnv → M D := gIf (g1 boolD (g2 eqD (g2 modD (g1 Dl.intD (mCons (gVar 3) mNil)) (gC (.int 2))) (gC (.int 0)))) (gVar 6) (mTup (mCons (g1 negD (g2 ixD (gVar 6) (gC (.int 0)))) (mCons (g2 ixD (gVar 6) (gC (.int 1))) mNil)))
theorem ch_ok {x0 x1 x2 x4 x5 : Option D} {ρ : DEnv} {q : PenS} : ∀ (rs : List (Int × Int)) (k : Nat), lcM (.tp [3, 6]) gYes chE (x0 :: x1 :: x2 :: none :: x4 :: x5 :: none :: ρ) (enumF k (rs.map encR)) q = .ok ((chR (odd k) rs).map encR) q
  | [], k => rfl
  | r :: rs, k => by
    have ih := ch_ok (x0 := x0) (x1 := x1) (x2 := x2) (x4 := x4) (x5 := x5) (ρ := ρ) (q := q) rs (k + 1)
    rw [odd_succ] at ih
    rw [List.map_cons]
    unfold enumF lcM
    have et : tgD (.tp [3, 6]) (.tup [.int (k : Nat), encR r]) (x0 :: x1 :: x2 :: none :: x4 :: x5 :: none :: ρ) = some (x0 :: x1 :: x2 :: some (.int (k : Nat)) :: x4 :: x5 :: some (encR r) :: ρ) := rfl
    rw [et]
    show (noX (chE (x0 :: x1 :: x2 :: some (.int (k : Nat)) :: x4 :: x5 :: some (encR r) :: ρ)) q).bd _ = _
    have e1 : chE (x0 :: x1 :: x2 :: some (.int (k : Nat)) :: x4 :: x5 :: some (encR r) :: ρ) q = .ok (encR (if odd k then (-r.1, r.2) else r)) q := by
      have em : modD (.int (k : Nat)) (.int 2) = some (.int ((k : Int).fmod 2)) := modD_int (by decide)
      have e0 : atI [D.int r.1, D.int r.2] 0 = some (.int r.1) := rfl
      have e1 : atI [D.int r.1, D.int r.2] 1 = some (.int r.2) := rfl
      unfold chE odd
      by_cases h : (k : Int).fmod 2 = 0
      · simp [gVar, em, h]
      · simp [gVar, em, h, e0, e1]
    have e2 : noX (chE (x0 :: x1 :: x2 :: some (.int (k : Nat)) :: x4 :: x5 :: some (encR r) :: ρ)) q = .ok (encR (if odd k then (-r.1, r.2) else r)) q := by unfold noX; rw [e1]
    rw [e2]
    show (lcM (.tp [3, 6]) gYes chE (x0 :: x1 :: x2 :: none :: x4 :: x5 :: none :: ρ) (enumF (k + 1) (rs.map encR)) q).bd _ = _
    rw [ih, chR_cons]
    rfl
/-- the three answers of a row -/
theorem three {d : D} {rs : List (Int × Int)} (h : Row d rs) (h1 : 1 ≤ rs.length) (h6 : rs.length ≤ 6) (q : PenS) : g_least_changes [d] q = .ok (.int (lowF (sgs rs) : Nat)) q ∧ g_greatest_changes [d] q = .ok (.int (highF (sgs rs))) q ∧ g_first_sign [d] q = .ok (.int (firstF (sgs rs))) q := by
  have F := Fact.of (sgs_signs rs) (by rw [sgs_len]; exact h1) (by rw [sgs_len]; exact h6)
  refine ⟨least_ok h h1 h6 q, ?_, firstsign_ok h h1 h6 q⟩
  rw [greatest_ok h h1 h6 F.g1 q, F.g2]
theorem rows_of : ∀ {xs ys : List D}, F2 (fun _ y => ∃ r, y = encR r ∧ Sm r) xs ys → ∃ rs : List (Int × Int), ys = rs.map encR ∧ (∀ r ∈ rs, Sm r) ∧ rs.length = xs.length
  | _, _, .nil => ⟨[], rfl, nofun, rfl⟩
  | _, _, .cons (as := as) (bs := bs) ⟨r, e, h⟩ t => by
    obtain ⟨rs, e2, h2, h3⟩ := rows_of t
    refine ⟨r :: rs, by rw [e, e2]; rfl, fun x hx => ?_, by rw [List.length_cons, List.length_cons, h3]⟩
    rcases List.mem_cons.mp hx with rfl | hx
    · exact h
    · exact h2 x hx
end K63
namespace K63
open PySem PySem.Spec PyProof.Rows L2 Dl
def cs0 : MS := (sSet 1 (g2 addD (gC (.int 1)) (gCall 2 g__law_draw (mCons (gVar 0) (mCons (gC (.int 6)) mNil)))))
def cs1 : MS := (sSet 2 (g1 tupleD (mCons (gLc [3] (g1 rng1D (mCons (gVar 1) mNil)) (.nm 3) gYes (gIf (g1 boolD (g2 eqD (gCall 2 g__law_draw (mCons (gVar 0) (mCons (gC (.int 3)) mNil))) (gC (.int 0)))) (mTup (mCons (gC (.int 0)) (mCons (gC (.int 1)) mNil))) (gCall 2 g__law_ratio (mCons (gVar 0) (mCons (gC (.int 3)) mNil))))) mNil)))
def cs2 : MS := (sPar 4 5 (gCall 2 g__law_given_row (mCons (gVar 0) (mCons (gVar 2) mNil))) (gLc [6] (g1 seqD (gVar 2)) (.nm 6) gYes (gCall 1 g__law_sign (mCons (gVar 6) mNil))))
def cs3 : MS := (sPar 7 8 (gCall 1 g__law_sign_turns (mCons (gVar 5) mNil)) (g1 maxD (mCons (gLc [9] (g1 seqD (gCall 1 g__law_signed (mCons (gVar 2) mNil))) (.nm 9) gYes (gCall 1 g__law_sign_turns (mCons (gVar 9) mNil))) mNil)))
def cs4 : MS := (sSet 10 (g2 ixD (g2 addD (gLc [11] (g1 seqD (gVar 5)) (.nm 11) (g1 boolD (g2 neD (gVar 11) (gC (.int 0)))) (gVar 11)) (mLst (mCons (gC (.int 0)) mNil))) (gC (.int 0))))
def cs5 : MS := (sIf (g1 boolD (g2 neD (g1 reprD (mCons (mTup (mCons (gCall 1 g_least_changes (mCons (gVar 4) mNil)) (mCons (gCall 1 g_greatest_changes (mCons (gVar 4) mNil)) (mCons (gCall 1 g_first_sign (mCons (gVar 4) mNil)) mNil)))) mNil)) (g1 reprD (mCons (mTup (mCons (gVar 7) (mCons (gVar 8) (mCons (gVar 10) mNil)))) mNil)))) (sRet (gC (.bl false))) sNext)
def cs6 : MS := (sSet 12 (gCall 2 g__law_pick (mCons (gVar 0) (mCons (mLst (mCons (mTup (mCons (gC (.int 3)) (mCons (gC (.int 1)) mNil))) (mCons (mTup (mCons (g1 negD (gC (.int 3))) (mCons (gC (.int 1)) mNil))) (mCons (mTup (mCons (gC (.int 1)) (mCons (gC (.int 2)) mNil))) (mCons (mTup (mCons (g1 negD (gC (.int 2))) (mCons (gC (.int 3)) mNil))) mNil))))) mNil))))
def cs7 : MS := (sSet 13 (g1 tupleD (mCons (gLc [6] (g1 seqD (gVar 2)) (.nm 6) gYes (gCall 2 g__law_times (mCons (gVar 12) (mCons (gVar 6) mNil)))) mNil)))
def cs8 : MS := (sIf (g1 boolD (g2 neD (mTup (mCons (gCall 1 g_least_changes (mCons (gVar 13) mNil)) (mCons (gCall 1 g_greatest_changes (mCons (gVar 13) mNil)) (mCons (gCall 1 g_first_sign (mCons (gVar 13) mNil)) mNil)))) (mTup (mCons (gVar 7) (mCons (gVar 8) (mCons (g2 mulD (gVar 10) (gCall 1 g__law_sign (mCons (gVar 12) mNil))) mNil)))))) (sRet (gC (.bl false))) sNext)
def cs9 : MS := (sIf (gOr (g1 boolD (g2 neD (gCall 1 g_least_changes (mCons (g1 revD (gVar 2)) mNil)) (gVar 7))) (gOr (g1 boolD (g2 neD (gCall 1 g_greatest_changes (mCons (g1 revD (gVar 2)) mNil)) (gVar 8))) (gOr (g1 boolD (g2 gtD (gVar 7) (gVar 8))) (g1 boolD (g2 notInD (g2 modD (g1 intD (mCons (g2 subD (gVar 8) (gVar 7)) mNil)) (gC (.int 2))) (mTup (mCons (gC (.int 0)) (mCons (gC (.int 1)) mNil)))))))) (sRet (gC (.bl false))) sNext)
def cs10 : MS := (sSet 14 (g1 tupleD (mCons (gLc [3, 6] (g1 enumTD (mCons (gVar 2) mNil)) (.tp [3, 6]) gYes (gIf (g1 boolD (g2 eqD (g2 modD (g1 intD (mCons (gVar 3) mNil)) (gC (.int 2))) (gC (.int 0)))) (gVar 6) (mTup (mCons (g1 negD (g2 ixD (gVar 6) (gC (.int 0)))) (mCons (g2 ixD (gVar 6) (gC (.int 1))) mNil))))) mNil)))
def cs11 : MS := (sRet (gOrV (g2 eqD (gVar 10) (gC (.int 0))) (g2 eqD (g2 addD (gCall 1 g_least_changes (mCons (gVar 14) mNil)) (gVar 8)) (g2 subD (gVar 1) (gC (.int 1))))))
theorem case_split : b__law_case = (sSeq cs0 (sSeq cs1 (sSeq cs2 (sSeq cs3 (sSeq cs4 (sSeq cs5 (sSeq cs6 (sSeq cs7 (sSeq cs8 (sSeq cs9 (sSeq cs10 cs11))))))))))) := rfl
def CE (x1 x2 x4 x5 x7 x8 x10 x12 x13 x14 : Option D) : DEnv := [some .pen, x1, x2, none, x4, x5, none, x7, x8, none, x10, none, x12, x13, x14]
def rI (n : Nat) : D := .int (n : Nat)
section
variable {x1 x2 x4 x5 x7 x8 x10 x12 x13 x14 : Option D}
theorem s0 {n : Nat} {q : PenS} (P : Pn n q) (hn : n < 500000) : ∃ (m : Nat) (q' : PenS), cs0 (CE x1 x2 x4 x5 x7 x8 x10 x12 x13 x14) q = .nx (CE (some (.int (m : Nat))) x2 x4 x5 x7 x8 x10 x12 x13 x14) q' ∧ 1 ≤ m ∧ m ≤ 6 ∧ Pn (n + 1) q' := by
  obtain ⟨d, q', e, P', d0, d1⟩ := dr_ok (many := 6) (by decide) (by decide) P (by omega)
  refine ⟨(1 + d).toNat, q', ?_, by omega, by omega, P'⟩
  have hd : ((1 + d).toNat : Int) = 1 + d := by omega
  rw [hd]
  unfold cs0 CE
  simp [gVar, e]
theorem s2 {n : Nat} {rs : List (Int × Int)} {q : PenS} (hs : ∀ r ∈ rs, Sm r) (h6 : rs.length ≤ 6) (P : Pn n q) (hn : n < 500000) : ∃ (d : D) (q' : PenS), cs2 (CE x1 (some (encW rs)) x4 x5 x7 x8 x10 x12 x13 x14) q = .nx (CE x1 (some (encW rs)) (some d) (some (.lst ((sgs rs).map .int))) x7 x8 x10 x12 x13 x14) q' ∧ Row d rs ∧ Pn (n + 19) q' := by
  obtain ⟨d, q', e, hr, P'⟩ := given_ok hs h6 P (by omega)
  refine ⟨d, q', ?_, hr, P'⟩
  have e1 : lcM (.nm 6) gYes (gCall 1 g__law_sign (mCons (gVar 6) mNil)) (CE x1 (some (encW rs)) x4 x5 x7 x8 x10 x12 x13 x14) (rs.map encR) q' = .ok ((sgs rs).map D.int) q' := by
    have := lcM_map (t := .nm 6) (elt := gCall 1 g__law_sign (mCons (gVar 6) mNil)) (ρ := CE x1 (some (encW rs)) x4 x5 x7 x8 x10 x12 x13 x14) (q := q') (f := fun d => match d with | .tup [.int a, _] => .int (sg a) | d => d) (xs := rs.map encR) fun x hx => by
      obtain ⟨r, _, rfl⟩ := List.mem_map.mp hx
      exact ⟨_, rfl, by simp [gVar, CE]; exact lsign_ok r.1 r.2 q'⟩
    rw [this]
    unfold sgs
    rw [List.map_map, List.map_map]
    rfl
  have hl : (sgs rs).length ≤ 100000 := by rw [sgs_len]; omega
  unfold CE at e1
  unfold cs2 CE
  simp only [e_sPar, e_gCall, e_g1, e_mCons, e_mNil, e_gLc, gVar, List.getElem?_cons_succ, List.getElem?_cons_zero, bd_ok, List.length_cons, List.length_nil, if_true, e, st_ok, seqD_tup, lift_some, e_wipe0, e_wipe1, List.set_cons_succ, List.set_cons_zero, e1, List.length_map, hl]
theorem s3 {rs : List (Int × Int)} {q : PenS} (h1 : 1 ≤ rs.length) (h6 : rs.length ≤ 6) : cs3 (CE x1 (some (encW rs)) x4 (some (.lst ((sgs rs).map .int))) x7 x8 x10 x12 x13 x14) q = .nx (CE x1 (some (encW rs)) x4 (some (.lst ((sgs rs).map .int))) (some (.int (lowF (sgs rs) : Nat))) (some (.int (highF (sgs rs)))) x10 x12 x13 x14) q := by
  have e1 := turns_ok (d := .lst ((sgs rs).map D.int)) (s := sgs rs) rfl (by rw [sgs_len]; omega) q
  have e2 := signed_ok h6 q
  have e3 : lcM (.nm 9) gYes (gCall 1 g__law_sign_turns (mCons (gVar 9) mNil)) (CE x1 (some (encW rs)) x4 (some (.lst ((sgs rs).map .int))) x7 x8 x10 x12 x13 x14) ((signedF (sgs rs)).map encL) q = .ok (((signedF (sgs rs)).map fun l => ((lowF l : Nat) : Int)).map D.int) q := by
    have hlen : ∀ l ∈ signedF (sgs rs), l.length ≤ 1000 := fun l hl => by
      have := signed_len (sgs rs) [[]] 0 (by simp) l hl
      rw [sgs_len] at this
      omega
    generalize signedF (sgs rs) = ls at hlen
    induction ls with
    | nil => rfl
    | cons l r ih =>
      have ih := ih fun l hl => hlen l (List.mem_cons_of_mem _ hl)
      rw [List.map_cons, List.map_cons, List.map_cons]
      unfold lcM
      have et : tgD (.nm 9) (encL l) (CE x1 (some (encW rs)) x4 (some (.lst ((sgs rs).map .int))) x7 x8 x10 x12 x13 x14) = some ((CE x1 (some (encW rs)) x4 (some (.lst ((sgs rs).map .int))) x7 x8 x10 x12 x13 x14).set 9 (some (encL l))) := rfl
      rw [et]
      show (noX (gCall 1 g__law_sign_turns (mCons (gVar 9) mNil) _) q).bd _ = _
      have f1 : gCall 1 g__law_sign_turns (mCons (gVar 9) mNil) ((CE x1 (some (encW rs)) x4 (some (.lst ((sgs rs).map .int))) x7 x8 x10 x12 x13 x14).set 9 (some (encL l))) q = .ok (.int (lowF l : Nat)) q := by
        have := turns_ok (d := encL l) (s := l) rfl (hlen l (List.mem_cons_self ..)) q
        simp [gVar, CE, this]
      have f2 : noX (gCall 1 g__law_sign_turns (mCons (gVar 9) mNil) ((CE x1 (some (encW rs)) x4 (some (.lst ((sgs rs).map .int))) x7 x8 x10 x12 x13 x14).set 9 (some (encL l)))) q = .ok (.int (lowF l : Nat)) q := by unfold noX; rw [f1]
      rw [f2]
      show (lcM (.nm 9) gYes (gCall 1 g__law_sign_turns (mCons (gVar 9) mNil)) (CE x1 (some (encW rs)) x4 (some (.lst ((sgs rs).map .int))) x7 x8 x10 x12 x13 x14) (r.map encL) q).bd _ = _
      rw [ih]
      rfl
  have hne := (bd_ok' (sgs_signs rs) (by rw [sgs_len]; exact h1) (by rw [sgs_len]; exact h6)).2.2.2
  have hcnt : (signedF (sgs rs)).length ≤ 100000 := by
    have := signed_cnt (sgs rs) [[]]
    rw [sgs_len] at this
    have hp : 2 ^ rs.length ≤ 2 ^ 6 := Nat.pow_le_pow_right (by decide) h6
    unfold signedF
    simp only [List.length_cons, List.length_nil] at this
    omega
  have e4 : maxD [.lst (((signedF (sgs rs)).map fun l => ((lowF l : Nat) : Int)).map D.int)] = some (.int (highF (sgs rs))) := maxD_map (by simpa using hne)
  unfold CE at e3
  unfold cs3 CE
  simp only [e_sPar, e_gCall, e_g1, e_mCons, e_mNil, e_gLc, gVar, List.getElem?_cons_succ, List.getElem?_cons_zero, bd_ok, List.length_cons, List.length_nil, if_true, e1, e2, st_ok, seqD_lst, lift_some, e_wipe0, e_wipe1, List.set_cons_succ, List.set_cons_zero, e3, List.length_map, hcnt, e4]
theorem s4 {s : List Int} {q : PenS} (h6 : s.length ≤ 6) : cs4 (CE x1 x2 x4 (some (.lst (s.map .int))) x7 x8 x10 x12 x13 x14) q = .nx (CE x1 x2 x4 (some (.lst (s.map .int))) x7 x8 (some (.int (firstF s))) x12 x13 x14) q := by
  have e1 : lcM (.nm 11) (g1 boolD (g2 neD (gVar 11) (gC (.int 0)))) (gVar 11) (CE x1 x2 x4 (some (.lst (s.map .int))) x7 x8 x10 x12 x13 x14) (s.map D.int) q = .ok ((nz s).map D.int) q := by
    have := lcM_pure (t := .nm 11) (test := g1 boolD (g2 neD (gVar 11) (gC (.int 0)))) (elt := gVar 11) (ρ := CE x1 x2 x4 (some (.lst (s.map .int))) x7 x8 x10 x12 x13 x14) (q := q) (p := intP fun x => !decide (x = 0)) (f := id) (xs := s.map D.int) fun x hx => by
      obtain ⟨i, _, rfl⟩ := List.mem_map.mp hx
      exact ⟨_, rfl, by simp [gVar, CE, intP], fun _ => by simp [gVar, CE]⟩
    rw [this, List.map_id, filter_int (fun x => !decide (x = 0)) _ (fun _ => rfl)]
    rfl
  have hl : (nz s).length ≤ 6 := Nat.le_trans (List.length_filter_le _ _) h6
  have hl2 : (nz s).length ≤ 100000 := by omega
  have e2 : addD (.lst ((nz s).map D.int)) (.lst [.int 0]) = some (.lst ((nz s).map D.int ++ [.int 0])) := addD_lst (by simp; omega)
  have e3 : atI ((nz s).map D.int ++ [.int 0]) 0 = some (.int (firstF s)) := by
    unfold firstF
    cases nz s with
    | nil => rfl
    | cons a r => exact atI_nat (i := 0) rfl
  have h1 : (1 : Nat) ≤ 100000 := by decide
  unfold CE at e1
  unfold cs4 CE
  simp only [e_sSet, e_g1, e_g2, e_mCons, e_mNil, e_mLst, e_gC, e_gLc, gVar, List.getElem?_cons_succ, List.getElem?_cons_zero, bd_ok, seqD_lst, lift_some, e_wipe0, e_wipe1, List.set_cons_succ, List.set_cons_zero, e1, List.length_map, hl2, if_true, List.length_cons, List.length_nil, Nat.zero_add, h1, e2, ixD_lst, e3, st_ok]
theorem s5 {d : D} {rs : List (Int × Int)} {q : PenS} (h : Row d rs) (h1 : 1 ≤ rs.length) (h6 : rs.length ≤ 6) : cs5 (CE x1 x2 (some d) x5 (some (.int (lowF (sgs rs) : Nat))) (some (.int (highF (sgs rs)))) (some (.int (firstF (sgs rs)))) x12 x13 x14) q = .nx (CE x1 x2 (some d) x5 (some (.int (lowF (sgs rs) : Nat))) (some (.int (highF (sgs rs)))) (some (.int (firstF (sgs rs)))) x12 x13 x14) q := by
  have F := Fact.of (sgs_signs rs) (by rw [sgs_len]; exact h1) (by rw [sgs_len]; exact h6)
  obtain ⟨b1, b2, b3, _⟩ := bd_ok' (sgs_signs rs) (by rw [sgs_len]; exact h1) (by rw [sgs_len]; exact h6)
  have hle := F.le
  obtain ⟨x, r1, r2⟩ := repr3 (a := (lowF (sgs rs) : Nat)) (b := highF (sgs rs)) (c := firstF (sgs rs)) (by omega) (by omega) ⟨b2, b3⟩
  obtain ⟨t1, t2, t3⟩ := three h h1 h6 q
  have h3 : (0 + 1 + 1 + 1 : Nat) ≤ 100000 := by decide
  unfold cs5 CE
  simp only [e_sIf, e_gCall, e_g1, e_g2, e_mCons, e_mNil, e_mTup, gVar, List.getElem?_cons_succ, List.getElem?_cons_zero, bd_ok, List.length_cons, List.length_nil, if_true, t1, t2, t3, h3, lift_some, r1, r2, boolD_bl, st_ok, Bool.false_eq_true, if_false, e_sNext]
theorem s6 {n : Nat} {q : PenS} (P : Pn n q) (hn : n < 500000) : ∃ (p : Int × Int) (q' : PenS), cs6 (CE x1 x2 x4 x5 x7 x8 x10 x12 x13 x14) q = .nx (CE x1 x2 x4 x5 x7 x8 x10 (some (encR p)) x13 x14) q' ∧ (p = (3, 1) ∨ p = (-3, 1) ∨ p = (1, 2) ∨ p = (-2, 3)) ∧ Pn (n + 1) q' := by
  obtain ⟨x, q', e, m, P'⟩ := pick_ok (xs := [encR (3, 1), encR (-3, 1), encR (1, 2), encR (-2, 3)]) (by simp) (by simp) P (by omega)
  have hx : ∃ p : Int × Int, x = encR p ∧ (p = (3, 1) ∨ p = (-3, 1) ∨ p = (1, 2) ∨ p = (-2, 3)) := by
    simp only [List.mem_cons, List.not_mem_nil, or_false] at m
    rcases m with rfl | rfl | rfl | rfl
    · exact ⟨_, rfl, .inl rfl⟩
    · exact ⟨_, rfl, .inr (.inl rfl)⟩
    · exact ⟨_, rfl, .inr (.inr (.inl rfl))⟩
    · exact ⟨_, rfl, .inr (.inr (.inr rfl))⟩
  obtain ⟨p, rfl, hp⟩ := hx
  refine ⟨p, q', ?_, hp, P'⟩
  unfold cs6 CE
  simp [gVar, e]
theorem s7 {p : Int × Int} {rs : List (Int × Int)} {q : PenS} (hp : p = (3, 1) ∨ p = (-3, 1) ∨ p = (1, 2) ∨ p = (-2, 3)) (hs : ∀ r ∈ rs, Sm r) (h6 : rs.length ≤ 6) : ∃ rs' : List (Int × Int), cs7 (CE x1 (some (encW rs)) x4 x5 x7 x8 x10 (some (encR p)) x13 x14) q = .nx (CE x1 (some (encW rs)) x4 x5 x7 x8 x10 (some (encR p)) (some (encW rs')) x14) q ∧ (∀ r ∈ rs', Low r) ∧ sgs rs' = (sgs rs).map (sg p.1 * ·) ∧ rs'.length = rs.length := by
  obtain ⟨rs', e, h1, h2, h3⟩ := led_ok hp (ρ := CE x1 (some (encW rs)) x4 x5 x7 x8 x10 (some (encR p)) x13 x14) (q := q) (fun _ => rfl) (fun _ => rfl) (by show 6 < 15; decide) hs
  refine ⟨rs', ?_, h1, h2, h3⟩
  have hl : rs'.length ≤ 100000 := by omega
  unfold CE at e
  unfold cs7 CE
  simp only [e_sSet, e_g1, e_mCons, e_mNil, e_gLc, gVar, List.getElem?_cons_succ, List.getElem?_cons_zero, bd_ok, seqD_tup, lift_some, e_wipe0, e_wipe1, List.set_cons_succ, List.set_cons_zero, e, List.length_map, hl, if_true, tupleD_lst, st_ok]
theorem s8 {p : Int × Int} {rs rs' : List (Int × Int)} {q : PenS} (hp : p = (3, 1) ∨ p = (-3, 1) ∨ p = (1, 2) ∨ p = (-2, 3)) (h1 : 1 ≤ rs.length) (h6 : rs.length ≤ 6) (hl : ∀ r ∈ rs', Low r) (hg : sgs rs' = (sgs rs).map (sg p.1 * ·)) (hn : rs'.length = rs.length) :
    cs8 (CE x1 x2 x4 x5 (some (.int (lowF (sgs rs) : Nat))) (some (.int (highF (sgs rs)))) (some (.int (firstF (sgs rs)))) (some (encR p)) (some (encW rs')) x14) q = .nx (CE x1 x2 x4 x5 (some (.int (lowF (sgs rs) : Nat))) (some (.int (highF (sgs rs)))) (some (.int (firstF (sgs rs)))) (some (encR p)) (some (encW rs')) x14) q := by
  have F := Fact.of (sgs_signs rs) (by rw [sgs_len]; exact h1) (by rw [sgs_len]; exact h6)
  obtain ⟨b1, b2, b3, _⟩ := bd_ok' (sgs_signs rs) (by rw [sgs_len]; exact h1) (by rw [sgs_len]; exact h6)
  have F' := Fact.of (sgs_signs rs') (by rw [sgs_len]; omega) (by rw [sgs_len]; omega)
  obtain ⟨t1, t2, t3⟩ := three (row_self hl) (by omega) (by omega) q
  have hs := lsign_ok p.1 p.2 q
  have hs' : g__law_sign [encR p] q = .ok (.int (sg p.1)) q := hs
  have key : ((lowF (sgs rs') : Nat) : Int) = (lowF (sgs rs) : Nat) ∧ highF (sgs rs') = highF (sgs rs) ∧ firstF (sgs rs') = firstF (sgs rs) * sg p.1 := by
    have hsg : sg p.1 = 1 ∨ sg p.1 = -1 := by rcases hp with rfl | rfl | rfl | rfl <;> decide
    rcases hsg with e | e
    · have : sgs rs' = sgs rs := by
        rw [hg, e]
        simp
      rw [this, e, Int.mul_one]
      exact ⟨rfl, rfl, rfl⟩
    · have : sgs rs' = neg (sgs rs) := by
        rw [hg, e]
        unfold neg
        exact List.map_congr_left fun x _ => by omega
      rw [e]
      refine ⟨by rw [this, F.n1], ?_, by rw [this, F.n3]; omega⟩
      rw [← F'.g2, this, F.n2]
  have hm : mulD (.int (firstF (sgs rs))) (.int (sg p.1)) = some (.int (firstF (sgs rs) * sg p.1)) := by
    have := sg_cases p.1
    exact mulD_int 10 10 (by omega) (by omega)
  have hne := ne3 (lowF (sgs rs') : Nat) (highF (sgs rs')) (firstF (sgs rs')) (lowF (sgs rs) : Nat) (highF (sgs rs)) (firstF (sgs rs) * sg p.1) key
  have h3 : (0 + 1 + 1 + 1 : Nat) ≤ 100000 := by decide
  unfold cs8 CE
  simp only [e_sIf, e_gCall, e_g1, e_g2, e_mCons, e_mNil, e_mTup, gVar, List.getElem?_cons_succ, List.getElem?_cons_zero, bd_ok, List.length_cons, List.length_nil, if_true, t1, t2, t3, hs', hm, h3, lift_some, hne, boolD_bl, st_ok, Bool.false_eq_true, if_false, e_sNext]
theorem s9 {rs : List (Int × Int)} {q : PenS} (hs : ∀ r ∈ rs, Low r) (h1 : 1 ≤ rs.length) (h6 : rs.length ≤ 6) :
    cs9 (CE x1 (some (encW rs)) x4 x5 (some (.int (lowF (sgs rs) : Nat))) (some (.int (highF (sgs rs)))) x10 x12 x13 x14) q = .nx (CE x1 (some (encW rs)) x4 x5 (some (.int (lowF (sgs rs) : Nat))) (some (.int (highF (sgs rs)))) x10 x12 x13 x14) q := by
  have F := Fact.of (sgs_signs rs) (by rw [sgs_len]; exact h1) (by rw [sgs_len]; exact h6)
  have er : revD (encW rs) = some (encW rs.reverse) := by
    show some (D.tup (rs.map encR).reverse) = _
    rw [← List.map_reverse]
  have F' := Fact.of (sgs_signs rs.reverse) (by rw [sgs_len, List.length_reverse]; exact h1) (by rw [sgs_len, List.length_reverse]; exact h6)
  have es : sgs rs.reverse = (sgs rs).reverse := by unfold sgs; rw [List.map_reverse]
  obtain ⟨t1, t2, t3⟩ := three (row_self (rs := rs.reverse) fun r hr => hs r (List.mem_reverse.mp hr)) (by rw [List.length_reverse]; exact h1) (by rw [List.length_reverse]; exact h6) q
  have k1 : lowF (sgs rs.reverse) = lowF (sgs rs) := by rw [es, F.r1]
  have k2 : highF (sgs rs.reverse) = highF (sgs rs) := by rw [← F'.g2, es, F.r2]
  rw [k1] at t1
  rw [k2] at t2
  have hle := F.le
  have k3 : decide (highF (sgs rs) < ((lowF (sgs rs) : Nat) : Int)) = false := decide_eq_false (by omega)
  have km : modD (.int (highF (sgs rs) - (lowF (sgs rs) : Nat))) (.int 2) = some (.int ((highF (sgs rs) - (lowF (sgs rs) : Nat)).fmod 2)) := modD_int (by decide)
  have ki : notInD (.int ((highF (sgs rs) - (lowF (sgs rs) : Nat)).fmod 2)) (.tup [.int 0, .int 1]) = some (.bl false) := by
    show some (D.bl (!decide (((highF (sgs rs) - (lowF (sgs rs) : Nat)).fmod 2) ∈ ([0, 1] : List Int)))) = _
    have a1 := Int.fmod_nonneg_of_pos (highF (sgs rs) - (lowF (sgs rs) : Nat)) (b := 2) (by decide)
    have a2 := Int.fmod_lt_of_pos (highF (sgs rs) - (lowF (sgs rs) : Nat)) (b := 2) (by decide)
    have : ((highF (sgs rs) - (lowF (sgs rs) : Nat)).fmod 2) ∈ ([0, 1] : List Int) := by
      simp only [List.mem_cons, List.not_mem_nil, or_false]
      omega
    rw [decide_eq_true this]
    rfl
  have h2 : (0 + 1 + 1 : Nat) ≤ 100000 := by decide
  have ht : ∀ i : Int, (!decide (i = i)) = false := fun i => by simp
  unfold cs9 CE
  simp only [e_sIf, e_gOr, e_gCall, e_g1, e_g2, e_gC, e_mCons, e_mNil, e_mTup, gVar, List.getElem?_cons_succ, List.getElem?_cons_zero, bd_ok, er, List.length_cons, List.length_nil, if_true, t1, t2, lift_some, neD_int, decide_true, Bool.not_true, boolD_bl, Bool.false_eq_true, if_false, gtD_int, k3, subD_int, intD_int, km, h2, ki, st_ok, e_sNext]
theorem s10 {rs : List (Int × Int)} {q : PenS} (h6 : rs.length ≤ 6) : cs10 (CE x1 (some (encW rs)) x4 x5 x7 x8 x10 x12 x13 x14) q = .nx (CE x1 (some (encW rs)) x4 x5 x7 x8 x10 x12 x13 (some (encW (chR false rs)))) q := by
  have et : enumTD [encW rs] = some (enumF 0 (rs.map encR)) := by rw [← enumL_eq]; rfl
  have e1 := ch_ok (x0 := some .pen) (x1 := x1) (x2 := some (encW rs)) (x4 := x4) (x5 := x5) (ρ := [x7, x8, none, x10, none, x12, x13, x14]) (q := q) rs 0
  rw [show odd 0 = false by decide] at e1
  have hl : (chR false rs).length ≤ 100000 := by rw [chR_len]; omega
  unfold chE at e1
  unfold cs10 CE
  simp only [e_sSet, e_g1, e_mCons, e_mNil, e_gLc, gVar, List.getElem?_cons_succ, List.getElem?_cons_zero, bd_ok, et, lift_some, e_wipe0, e_wipe1, List.set_cons_succ, List.set_cons_zero, e1, List.length_map, hl, if_true, tupleD_lst, st_ok]
theorem s11 {rs : List (Int × Int)} {q : PenS} (hs : ∀ r ∈ rs, Low r) (h1 : 1 ≤ rs.length) (h6 : rs.length ≤ 6) : cs11 (CE (some (.int (rs.length : Nat))) x2 x4 x5 x7 (some (.int (highF (sgs rs)))) (some (.int (firstF (sgs rs)))) x12 x13 (some (encW (chR false rs)))) q = .rt (.bl true) q := by
  have F := Fact.of (sgs_signs rs) (by rw [sgs_len]; exact h1) (by rw [sgs_len]; exact h6)
  obtain ⟨t1, t2, t3⟩ := three (row_self (chR_low false hs)) (by rw [chR_len]; exact h1) (by rw [chR_len]; exact h6) q
  rw [chR_sgs] at t1
  have hc := F.ch
  rw [sgs_len] at hc
  unfold cs11 CE
  by_cases hf : firstF (sgs rs) = 0
  · simp [gVar, hf]
  · have hc := hc.resolve_left hf
    simp [gVar, hf, t1, hc]
end
end K63
namespace K63
open PySem PySem.Spec PyProof.Rows L2 Dl
theorem seq_nx {a b : MS} {ρ ρ1 : DEnv} {q q1 : PenS} (h : a ρ q = .nx ρ1 q1) : sSeq a b ρ q = b ρ1 q1 := by
  rw [e_sSeq, h, sq_nx]
theorem g1_gen {α : Type} {f : List D → Option α} {r : α} {i : Nat} {d : D} {ρ : DEnv} {q : PenS} (h : f [d] = some r) (hi : ρ[i]? = some (some d)) : g1 f (mCons (gVar i) mNil) ρ q = .ok r q := by
  simp only [e_g1, e_mCons, e_mNil, gVar, hi, bd_ok, h, lift_some]
theorem row_gen {gi : DEnv → M (List D)} {elt : DEnv → M D} {ρ : DEnv} {q q1 : PenS} {xs ys : List D} (h1 : gi ρ q = .ok xs q) (h2 : lcM (.nm 3) gYes elt (ρ.set 3 none) xs q = .ok ys q1) (h3 : ys.length ≤ 100000) : sSet 2 (g1 tupleD (mCons (gLc [3] gi (.nm 3) gYes elt) mNil)) ρ q = .nx (ρ.set 2 (some (.tup ys))) q1 := by
  simp only [e_sSet, e_g1, e_mCons, e_mNil, e_gLc, h1, bd_ok, e_wipe0, e_wipe1, h2, h3, if_true, tupleD_lst, lift_some, st_ok]
section
variable {x1 x2 x4 x5 x7 x8 x10 x12 x13 x14 : Option D}
theorem s1 {n m : Nat} {q : PenS} (hm : m ≤ 6) (P : Pn n q) (hn : n < 500000) : ∃ (rs : List (Int × Int)) (q' : PenS), cs1 (CE (some (.int (m : Nat))) x2 x4 x5 x7 x8 x10 x12 x13 x14) q = .nx (CE (some (.int (m : Nat))) (some (encW rs)) x4 x5 x7 x8 x10 x12 x13 x14) q' ∧ (∀ r ∈ rs, Sm r) ∧ rs.length = m ∧ Pn (n + 18) q' := by
  obtain ⟨ys, q1, e1, f1, P1⟩ := lcM_st (t := .nm 3) (elt := gIf (g1 boolD (g2 eqD (gCall 2 g__law_draw (mCons (gVar 0) (mCons (gC (.int 3)) mNil))) (gC (.int 0)))) (mTup (mCons (gC (.int 0)) (mCons (gC (.int 1)) mNil))) (gCall 2 g__law_ratio (mCons (gVar 0) (mCons (gC (.int 3)) mNil)))) (ρ := CE (some (.int (m : Nat))) x2 x4 x5 x7 x8 x10 x12 x13 x14) (R := fun _ y => ∃ r, y = encR r ∧ Sm r) (xs := rngL 0 m) (fun x hx n q P hn => by
    obtain ⟨d, q', e, P', d0, d1⟩ := dr_ok (many := 3) (by decide) (by decide) P (by omega)
    by_cases hd : d = 0
    · subst hd
      exact ⟨_, rfl, encR (0, 1), q', by simp [gVar, CE, e], ⟨(0, 1), rfl, ⟨by decide, by decide, by decide⟩, by decide, by decide, by decide⟩, P'.mono (by omega)⟩
    · obtain ⟨r, q2, e2, h2, P2⟩ := ratio_ok P' (by omega)
      exact ⟨_, rfl, encR r, q2, by simp [gVar, CE, e, hd, e2], ⟨r, rfl, h2⟩, P2⟩) P (by unfold rngL; rw [List.length_map, List.length_range]; omega)
  obtain ⟨rs, h1, h2, h3⟩ := rows_of f1
  have hl : (rngL 0 m).length = m := by unfold rngL; rw [List.length_map, List.length_range]
  rw [hl] at h3 P1
  subst h1
  refine ⟨rs, q1, ?_, h2, h3, P1.mono (by omega)⟩
  have er := rng1D_nat m (by omega)
  have hl2 : rs.length ≤ 100000 := by omega
  exact row_gen (g1_gen er rfl) e1 (by rw [List.length_map]; exact hl2)
end
theorem case_ok {n : Nat} {q : PenS} (P : Pn n q) (hn : n < 400000) : ∃ q', g__law_case [.pen] q = .ok (.bl true) q' ∧ Pn (n + 39) q' := by
  obtain ⟨m, q1, a1, m1, m6, P1⟩ := s0 (x1 := none) (x2 := none) (x4 := none) (x5 := none) (x7 := none) (x8 := none) (x10 := none) (x12 := none) (x13 := none) (x14 := none) P (by omega)
  obtain ⟨rs, q2, a2, hs, hl, P2⟩ := s1 (x2 := none) (x4 := none) (x5 := none) (x7 := none) (x8 := none) (x10 := none) (x12 := none) (x13 := none) (x14 := none) m6 P1 (by omega)
  subst hl
  obtain ⟨d, q3, a3, hr, P3⟩ := s2 (x1 := some (.int (rs.length : Nat))) (x4 := none) (x5 := none) (x7 := none) (x8 := none) (x10 := none) (x12 := none) (x13 := none) (x14 := none) hs m6 P2 (by omega)
  obtain ⟨p, q4, a4, hp, P4⟩ := s6 (x1 := some (.int (rs.length : Nat))) (x2 := some (encW rs)) (x4 := some d) (x5 := some (.lst ((sgs rs).map .int))) (x7 := some (.int (lowF (sgs rs) : Nat))) (x8 := some (.int (highF (sgs rs)))) (x10 := some (.int (firstF (sgs rs)))) (x12 := none) (x13 := none) (x14 := none) P3 (by omega)
  obtain ⟨rs', a5, h1', h2', h3'⟩ := s7 (x1 := some (.int (rs.length : Nat))) (x4 := some d) (x5 := some (.lst ((sgs rs).map .int))) (x7 := some (.int (lowF (sgs rs) : Nat))) (x8 := some (.int (highF (sgs rs)))) (x10 := some (.int (firstF (sgs rs)))) (x13 := none) (x14 := none) (q := q4) hp hs m6
  have hlow : ∀ r ∈ rs, Low r := fun r h => (hs r h).lo
  refine ⟨q4, ?_, P4.mono (by omega)⟩
  have key := (seq_nx (b := sSeq cs1 (sSeq cs2 (sSeq cs3 (sSeq cs4 (sSeq cs5 (sSeq cs6 (sSeq cs7 (sSeq cs8 (sSeq cs9 (sSeq cs10 cs11)))))))))) a1).trans ((seq_nx a2).trans ((seq_nx a3).trans ((seq_nx (s3 m1 m6)).trans ((seq_nx (s4 (s := sgs rs) (by rw [sgs_len]; exact m6))).trans ((seq_nx (s5 hr m1 m6)).trans ((seq_nx a4).trans ((seq_nx a5).trans ((seq_nx (s8 hp m1 m6 h1' h2' h3')).trans ((seq_nx (s9 hlow m1 m6)).trans ((seq_nx (s10 m6)).trans (s11 hlow m1 m6)))))))))))
  unfold g__law_case
  rw [run_eq, case_split]
  have es : startD 15 [.pen] = CE none none none none none none none none none none := rfl
  rw [es, key]
  rfl
end K63
namespace K63
open PySem PySem.Spec PyProof.Rows L2 Dl
section
variable {w : World} {K : PySem.W.Frag} {mg : Str → Option Value} {base : Heap}
def N__law_pen : List Str := ["script", "fold", "cell"]
theorem s__law_pen : FnScope N__law_pen ["script"] (defScope (top 34)) := ⟨by rfl, by rfl, by rfl, by decide, by rfl, by decide +kernel, by decide +kernel⟩
theorem pen_fn (c : Ctx K mg) : PenFn P w K mg base := by
  have dk := c.dk 34 "_law_pen" (by decide)
  obtain ⟨fd, Fu⟩ := dk.fu
  refine ⟨⟨fd, ["script"], rfl, Fu.ok s__law_pen (fun vs H Q E ⟨a, ns, e, _⟩ => by rw [e]; rfl) (k := 0) fun cdv A outer s H vs Q E hr hsp => ⟨_, pss_cons (ps_set (i := 1) s__law_pen.nd rfl (.inl rfl) pe_int rfl (.inr rfl)) (pss_cons
    (ps_for (passes_of rfl) rfl (pi_list (pe_var (i := 0) rfl (.inl rfl))) (pg_name (i := 2) s__law_pen.nd rfl (.inl rfl) (.inr rfl))
      (pss_one (ps_set (i := 1) s__law_pen.nd rfl (.inl rfl) (pe_op op_modN (pe_callTy call_int1 rfl (c.free "int" (by decide)) rfl (pa_cons (pe_op op_add (pe_op op_mulW (pe_var (i := 1) rfl (.inl rfl)) pe_int) (pe_var (i := 2) rfl (.inl rfl))) pa_nil rfl)) pe_int) rfl (.inr rfl))))
    (pss_one (ps_ret (pe_disp (pps_cons pe_str (pe_callTy call_list_of rfl (c.free "list" (by decide)) rfl (pa_cons (pe_var (i := 0) rfl (.inl rfl)) pa_nil rfl)) (pps_cons pe_str pe_int (pps_cons pe_str pe_int (pps_cons pe_str pe_int (pps_cons pe_str (pe_var (i := 1) rfl (.inl rfl)) pps_nil))))) rfl rfl (by simp) (by decide))))), ?_⟩, ?_⟩, Fu.kp, dk.mg⟩
  · obtain ⟨a, ns, rfl, hq, fin⟩ := hsp
    refine ⟨.ref a, rfl, a, rfl, ⟨_, hq⟩, fun i m σ2 H2 => m = ns.length - i ∧ i ≤ ns.length ∧ H2 = H ∧ ∃ z, σ2 = [some (.ref a), some (.int ((ns.take i).foldl foldI 0)), z], ⟨_, rfl, Nat.zero_le _, rfl, none, rfl⟩, ?_⟩
    rintro i m σ2 H2 ⟨rfl, hi, rfl, z, rfl⟩
    by_cases hlt : i < ns.length
    · refine .inr ⟨⟨_, .int ns[i], hq, by simp [hlt]⟩, fun σ' H' => H' = H2 ∧ ∃ z, σ' = [some (.ref a), some (.int ((ns.take (i + 1)).foldl foldI 0)), z], fun σ' H' ⟨e, p'⟩ => ⟨ns.length - (i + 1), by omega, rfl, hlt, e, p'⟩, fun x H3 y => ?_⟩
      obtain ⟨e, y⟩ := y
      subst e
      have hx := y _ hq
      rw [List.getElem?_map, List.getElem?_eq_getElem hlt] at hx
      have ex : V.int ns[i] = x := Option.some.inj hx
      subst ex
      obtain ⟨b0, b1⟩ := foldI_bd (ns.take i)
      have bm : CMulW ((ns.take i).foldl foldI 0) 139 := wide_mul (a := 40) (b := 10) (by omega) (by decide) (by decide) (by decide) (by decide)
      have et : (ns.take (i + 1)).foldl foldI 0 = foldI ((ns.take i).foldl foldI 0) ns[i] := by
        rw [List.take_succ_eq_append_getElem hlt, List.foldl_append]
        rfl
      refine ⟨.int ((ns.take i).foldl foldI 0), rfl, _, _, rfl, rfl, bm, .int ns[i], rfl, _, _, rfl, rfl, .inl ⟨_, rfl, _, _, rfl, rfl, (show (999999491 : Int) ≠ 0 by decide), rfl, some (.int ns[i]), ?_⟩⟩
      rw [et]
      rfl
    · have ei : i = ns.length := by omega
      subst ei
      refine .inl ⟨⟨_, hq, by simp⟩, fun p hp => ?_⟩
      rw [List.take_length]
      refine ⟨.ref a, rfl, a, _, rfl, .inl (Dl.SqL.upd hq hp), fun q hc => ⟨.int (ns.foldl foldI 0), rfl, ?_⟩⟩
      have nq : q ≠ p := fun e => by
        rw [e, upd_same] at hc
        cases hc
      have hcH : H2 q = none := by rwa [upd_ne nq] at hc
      refine ⟨by rw [upd_ne (Ne.symm nq), upd_same], [(.inr "cells", .ref q), (.inr "at", .int 0), (.inr "digits", .int 0), (.inr "count", .int 0), (.inr "fold", .int (ns.foldl foldI 0))], rfl, by show 5 ≤ 15; decide, fin p q _ ⟨hp, hcH, nq, ?_, ?_, fun b h1 h2 => ?_⟩⟩
      · rw [upd_same]
        rfl
      · rw [upd_ne nq, upd_same]
      · rw [upd_ne h1, upd_ne h2, upd_ne h1]
  · obtain ⟨oc, od, dV, kV, doc, pm, an, cdv, ct, osl, rfl, _, _, hD, _⟩ := Fu.ex
    rcases hD with ⟨_, rfl⟩ | ⟨e, _⟩
    · exact Binds.all fun us h => match us, h with | [x0], _ => rfl
    · exact absurd rfl e
end
/-! ### the def that tells faults -/
section
variable {X : Cx} {C : Fx} {W : WX}
def N__law_fault : List Str := ["work", "fault"]
theorem s__law_fault : FnScope N__law_fault ["work"] (defScope (top 43)) := ⟨by rfl, by rfl, by rfl, by decide, by rfl, by decide +kernel, by decide +kernel⟩
theorem clauses (c : Ctx X.K X.mg) (s : Shared) (H : Hp) (cdv : Value) (gA : Addr) : ∃ h₀ hds p1 p2 p3 p4 p5 p6 j, defBody (top 43) = [.Try [.Expr (.Call (.Name "work" p1) [] [] p2) p3] (h₀ :: hds) [] [] p4, .Return (some (.Constant .none j p5)) p6] ∧
    ClsOk (cxOf C8.CX0 X.prog X.w X.K X.mg X.base N__law_fault "_law_fault" (defScope (top 43)) gA cdv X.A X.stack s H C8.E0).nox "fault" (h₀ :: hds) (clList X.K 1 faults) :=
  ⟨_, _, _, _, _, _, _, _, _, rfl,
    .cons ⟨"BadLot", _, _, _, _, rfl, ⟨rfl, by decide, .inl (c.mgx _ (.head _))⟩, fun a oe cls d pn z hf => suite_ok (.cons (pe_xf (c.xf _ (.head _)) (c.nof _ (.head _) _ (.head _)) z hf (pe_var rfl (.inl rfl))) rfl .nil) rfl⟩
    (.cons ⟨"BadNumber", _, _, _, _, rfl, ⟨rfl, by decide, .inl (c.mgx _ (.tail _ (.head _)))⟩, fun a oe cls d pn z hf => suite_ok (.cons (pe_xf (c.xf _ (.tail _ (.head _))) (c.nof _ (.tail _ (.head _)) _ (.head _)) z hf (pe_var rfl (.inl rfl))) rfl (.cons (pe_xf (c.xf _ (.tail _ (.head _))) (c.nof _ (.tail _ (.head _)) _ (.tail _ (.head _))) z hf (pe_var rfl (.inl rfl))) rfl .nil)) rfl⟩
    (.cons ⟨"BadRow", _, _, _, _, rfl, ⟨rfl, by decide, .inl (c.mgx _ (.tail _ (.tail _ (.head _))))⟩, fun a oe cls d pn z hf => suite_ok (.cons (pe_xf (c.xf _ (.tail _ (.tail _ (.head _)))) (c.nof _ (.tail _ (.tail _ (.head _))) _ (.head _)) z hf (pe_var rfl (.inl rfl))) rfl .nil) rfl⟩
    (.cons ⟨"BadTable", _, _, _, _, rfl, ⟨rfl, by decide, .inl (c.mgx _ (.tail _ (.tail _ (.tail _ (.head _)))))⟩, fun a oe cls d pn z hf => suite_ok (.cons (pe_xf (c.xf _ (.tail _ (.tail _ (.tail _ (.head _))))) (c.nof _ (.tail _ (.tail _ (.tail _ (.head _)))) _ (.head _)) z hf (pe_var rfl (.inl rfl))) rfl .nil) rfl⟩
    (.cons ⟨"TooMany", _, _, _, _, rfl, ⟨rfl, by decide, .inl (c.mgx _ (.tail _ (.tail _ (.tail _ (.tail _ (.head _))))))⟩, fun a oe cls d pn z hf => suite_ok (.cons (pe_xf (c.xf _ (.tail _ (.tail _ (.tail _ (.tail _ (.head _)))))) (c.nof _ (.tail _ (.tail _ (.tail _ (.tail _ (.head _))))) _ (.head _)) z hf (pe_var rfl (.inl rfl))) rfl
      (.cons (pe_xf (c.xf _ (.tail _ (.tail _ (.tail _ (.tail _ (.head _)))))) (c.nof _ (.tail _ (.tail _ (.tail _ (.tail _ (.head _))))) _ (.tail _ (.head _))) z hf (pe_var rfl (.inl rfl))) rfl (.cons (pe_xf (c.xf _ (.tail _ (.tail _ (.tail _ (.tail _ (.head _)))))) (c.nof _ (.tail _ (.tail _ (.tail _ (.tail _ (.head _))))) _ (.tail _ (.tail _ (.head _)))) z hf (pe_var rfl (.inl rfl))) rfl .nil))) rfl⟩
    (.cons ⟨"Unlike", _, _, _, _, rfl, ⟨rfl, by decide, .inl (c.mgx _ (.tail _ (.tail _ (.tail _ (.tail _ (.tail _ (.head _)))))))⟩, fun a oe cls d pn z hf => suite_ok (.cons (pe_xf (c.xf _ (.tail _ (.tail _ (.tail _ (.tail _ (.tail _ (.head _))))))) (c.nof _ (.tail _ (.tail _ (.tail _ (.tail _ (.tail _ (.head _)))))) _ (.head _)) z hf (pe_var rfl (.inl rfl))) rfl .nil) rfl⟩
    .nil)))))⟩
end
end K63
namespace K63
open PySem PySem.Spec PyProof.Rows L2 Dl
def workT (K : PySem.W.Frag) : Tab := fun f => if f = He.ga K "least_changes" then some g_least_changes else if f = He.ga K "greatest_changes" then some g_greatest_changes else if f = He.ga K "first_sign" then some g_first_sign else none
section
variable {w : World} {K : PySem.W.Frag} {mg : Str → Option Value} {base : Heap}
theorem workT_ok (c : Ctx K mg) (f : Addr) (g : List D → M D) (h : workT K f = some g) : ∃ (fd : FuncData) (ps : List Str), ps.length = 1 ∧ FnG false P w K mg base 10 f fd ps g ∧ PySem.W.keepIn K (.ref f) = true ∧ Binds K fd ps [] := by
  have go : ∀ {x : Str} {g : List D → M D}, Has false P w K mg base 10 x 1 g → ∃ (fd : FuncData) (ps : List Str), ps.length = 1 ∧ FnG false P w K mg base 10 (He.ga K x) fd ps g ∧ PySem.W.keepIn K (.ref (He.ga K x)) = true ∧ Binds K fd ps [] := fun {x g} H => by
    obtain ⟨fd, ps, h1, h2, h3⟩ := H.ex
    exact ⟨fd, ps, h1, h2, H.kp, h3⟩
  unfold workT at h
  split at h
  · rename_i e
    cases h
    rw [e]
    exact go (h_least_changes c)
  · split at h
    · rename_i e
      cases h
      rw [e]
      exact go (h_greatest_changes c)
    · split at h
      · rename_i e
        cases h
        rw [e]
        exact go (h_first_sign c)
      · cases h
end
section
variable {X : Cx} {C : Fx} {W : WX}
theorem de_faultK {u : Bool} {k : Nat} {cc Pt : Addr} {params : Arguments} {body : Expr} {scope : Scope} {g : DEnv → M D} {p lpos pos : Pos} (c : Ctx X.K X.mg) (TB : LamX.TabB X.base X.mg cc Pt) (hq : C.S.T = [(Pt, X.env.qual ++ "<lambda>")]) (bd : Bd u X (k + 2) W) (hcode : X.env.code = .ref cc)
    (hbody : ∀ (A : Around) (outer : List PySem.Env) (s : Shared) (H : Hp) (E : XK) (f c' : Addr), Room k (A.deeper (LamX.lamEnv X scope s.heap.objs.size f c')) → PE (LamX.lamCx X A outer s H E scope f c') body (tE X.K C (fun cls d _ H' => E cls d H') g)) (L : LamX.LamS X.env.scope scope := by exact LamX.lamS_by (by rfl)) (hdef : defaultsOf params X.env = ([], []) := by rfl)
    (hbind : ∀ (q : Str) (cl : List (Str × Addr)) (pm cv ctv : Value), bindArgs (PySem.W.kla_fn "<lambda>" q params body scope cl pm cv ctv) ⟨[], []⟩ = pure [] := by intros; rfl) (hg : Gl X "_law_fault" := by rfl) :
    PE X (.Call (.Name "_law_fault" p) [.Lambda params body scope lpos] [] pos) (tE X.K C W (fun ρ q => faultRz faults (g ρ q))) := by
  have dk := c.dk 43 "_law_fault" (by decide)
  obtain ⟨fd, Fu⟩ := dk.fu
  have hb : L2.Binds X.K fd ["work"] [] := by
    obtain ⟨oc, od, dV, kV, doc, pm, an, cdv, ct, osl, rfl, _, _, hD, _⟩ := Fu.ex
    rcases hD with ⟨_, rfl⟩ | ⟨e, _⟩
    · exact Binds.all fun us h => match us, h with | [x0], _ => rfl
    · exact absurd rfl e
  obtain ⟨h₀, hds, p1, p2, p3, p4, p5, p6, j, e1⟩ : ∃ h₀ hds p1 p2 p3 p4 p5 p6 j, defBody (top 43) = [.Try [.Expr (.Call (.Name "work" p1) [] [] p2) p3] (h₀ :: hds) [] [] p4, .Return (some (.Constant .none j p5)) p6] := ⟨_, _, _, _, _, _, _, _, _, rfl⟩
  have e2 := e1
  refine de_fault (k := k) (n := "fault") dk.mg (e1 ▸ Fu) hb s__law_fault rfl rfl (.inl rfl) rfl (fun s H cdv => ?_) (fun x hx => ?_) (by decide) TB hcode (by rw [hq]; exact List.mem_cons_self ..) (fun q hm _ => ?_) bd.hr L hdef hbind hbody hg
  · obtain ⟨h1, hd1, q1, q2, q3, q4, q5, q6, j1, e3, cl⟩ := clauses c s H cdv (He.ga X.K "_law_fault")
    rw [e1] at e3
    injection e3 with e4 _
    injection e4 with _ e5 _ _ _
    rw [e5]
    exact cl
  · cases h : faults.lookup x with
    | none => rw [h] at hx; cases hx
    | some v =>
      have hm := PySem.mem_of_lookup h
      exact c.exm _ hm
  · rw [hq] at hm
    rw [List.mem_singleton.mp hm]
end
section
variable {w : World} {K : PySem.W.Frag} {mg : Str → Option Value} {base : Heap}
def N_law : List Str := ["script", "pen", "lap", "bad", "work"]
def o_law : Nat → Bool := fun _ => false
theorem s_law : FnScope N_law ["script"] (defScope (top 49)) := ⟨by rfl, by rfl, by rfl, by decide, by rfl, by decide +kernel, by decide +kernel⟩
def b_law (K : PySem.W.Frag) : MS := (sSeq (sIf (gNot (g1 truD (g1 allD (mCons (gLc [2] (g1 rng1D (mCons (gC (.int 8)) mNil)) (.nm 2) gYes (gCall 1 g__law_case (mCons (gVar 1) mNil))) mNil)))) (sRet (gC (.bl false))) sNext) (sSeq (sSet 3 (gCall 2 g__law_pick (mCons (gVar 1) (mCons (mLst (mCons (gC .non) (mCons (gC (.int 5)) (mCons (mTup mNil) (mCons (mTup (mCons (gC (.str "1")) mNil)) (mCons (mTup (mCons (gC (.bl true)) mNil)) (mCons (mTup (mCons (mTup (mCons (gC (.int 1)) (mCons (gC (.int 0)) mNil))) mNil)) (mCons (g2 mulD (mTup (mCons (gC (.int 1)) mNil)) (gC (.int 7))) (mCons (gC (.str "1")) (mCons (mTup (mCons (gC .non) mNil)) mNil)))))))))) mNil)))) (sRet (g1 allD (mCons (gLc [4] (g1 seqD (mTup (mCons (gC (.ref (He.ga K "least_changes"))) (mCons (gC (.ref (He.ga K "greatest_changes"))) (mCons (gC (.ref (He.ga K "first_sign"))) mNil))))) (.nm 4) gYes (g2 eqD (g1 reprD (mCons (fun ρ q => faultRz faults ((gCallL 4 (workT K) 1 (mCons (gVar 3) mNil)) ρ q)) mNil)) (g1 reprD (mCons (mTup (mCons (gC (.str "row")) (mCons (gVar 3) mNil))) mNil)))) mNil)))))
theorem law_rest (c : Ctx K mg) {cc Pt : Addr} (TB : LamX.TabB base mg cc Pt) {fa : Addr} {A : Around} {outer : List PySem.Env} {s : Shared} {H : Hp} {E : XK} {C : Fx} (hq : C.S.T = [(Pt, (envOfC "law" (defScope (top 49)) s.heap.objs.size fa (.ref cc)).qual ++ "<lambda>")]) (ho : C.own = o_law)
    (bd : Bd true (cxOf (L2.CX P w) P w K mg base N_law "law" (defScope (top 49)) fa (.ref cc) A outer s H E) 12 (fun cls d _ H' => E cls d H')) :
    PSs (cxOf (L2.CX P w) P w K mg base N_law "law" (defScope (top 49)) fa (.ref cc) A outer s H E) (defBody (top 49)).tail (tS K C (fun cls d _ H' => E cls d H') (b_law K)) := by
  obtain ⟨S, F0, H0, own⟩ := C
  dsimp only at hq ho
  subst ho
  exact (dss_cons (ds_if (dt_not (dt_tru (PE.db (de_callB (cd_all bd.hc) (c.free "all" (by decide)) rfl (dab_cons (PE.db (PE.de (dn_lc [("lap", 2)] bd.hc s_law.nd (PI.e (di_range1 (c.free "range" (by decide)) (da_cons de_int da_nil))) (blkOk_by (by rfl)) (show ∀ i ∈ ([2] : List Nat), o_law i = false by decide) (by decide) (fun s H C' cl fp => (pgt_nm (i := 2) s_law.nd)) (fun s H C' cl fp => dts_nil) (fun s H C' cl fp => (de_callH bd.blk (h__law_case c) (da_cons (de_var 1 (by rfl)) da_nil)))))) dab_nil))))) (dss_one (ds_ret de_bl)) dss_nil) (dss_cons (ds_set 3 (by rfl) s_law.nd (de_callH bd (h__law_pick c) (da_cons (de_var 1 (by rfl)) (da_cons (PE.de (dn_lst (da_cons de_non (da_cons de_int (da_cons (de_tup da_nil) (da_cons (de_tup (da_cons de_str da_nil)) (da_cons (de_tup (da_cons de_bl da_nil)) (da_cons (de_tup (da_cons (de_tup (da_cons de_int (da_cons de_int da_nil))) da_nil)) (da_cons (de_op2 od_mul (PE.db (de_tup (da_cons de_int da_nil))) (PE.db de_int)) (da_cons de_str (da_cons (de_tup (da_cons de_non da_nil)) da_nil))))))))))) da_nil)))) (dss_one (ds_ret (de_callB (cd_all bd.hc) (c.free "all" (by decide)) rfl (dab_cons (PE.db (PE.de (dn_lc [("work", 4)] bd.hc s_law.nd (PI.e (di_seq (de_tup (da_cons (de_glob (v := .ref _) (h_least_changes c (w := w) (base := base)).mg rfl (fun F => .ref _)) (da_cons (de_glob (v := .ref _) (h_greatest_changes c (w := w) (base := base)).mg rfl (fun F => .ref _)) (da_cons (de_glob (v := .ref _) (h_first_sign c (w := w) (base := base)).mg rfl (fun F => .ref _)) da_nil)))))) (blkOk_by (by rfl)) (show ∀ i ∈ ([4] : List Nat), o_law i = false by decide) (by decide) (fun s H C' cl fp => (pgt_nm (i := 4) s_law.nd)) (fun s H C' cl fp => dts_nil) (fun s H C' cl fp => (de_cmp (od_eq bd.blk.u64) (PE.db (de_callB (cd_repr (bd.blk.gd rfl) bd.blk.u66) (c.free "repr" (by decide)) rfl (dab_cons (PE.db (de_faultK c TB hq bd.blk (by rfl) fun A outer s H E f c' rl => (de_callL 4 1 (workT_ok c) nofun rl (takes_of rfl rfl rfl rfl) (by rfl) (da_cons (de_var 3 (by rfl)) da_nil)))) dab_nil))) (PE.db (de_callB (cd_repr (bd.blk.gd rfl) bd.blk.u66) (c.free "repr" (by decide)) rfl (dab_cons (PE.db (de_tup (da_cons de_str (da_cons (de_var 3 (by rfl)) da_nil)))) dab_nil))) (nomark _)))))) dab_nil))))))
theorem law_all (c : Ctx K mg) {cc Pt : Addr} (TB : LamX.TabB base mg cc Pt) {fa : Addr} {A : Around} {outer : List PySem.Env} {s : Shared} {H : Hp} {E : XK} (bd : Bd true (cxOf (L2.CX P w) P w K mg base N_law "law" (defScope (top 49)) fa (.ref cc) A outer s H E) 12 (fun cls d _ H' => E cls d H')) :
    PSs (cxOf (L2.CX P w) P w K mg base N_law "law" (defScope (top 49)) fa (.ref cc) A outer s H E) (defBody (top 49)) (fun D σ H1 => ∃ a ns, σ[0]? = some (some (.ref a)) ∧ SqL K H1 a (ns.map V.int) ∧ ∀ p c H', PenAt H1 H' p c ns →
      ∃ C : Fx, C.S.T = [(Pt, (envOfC "law" (defScope (top 49)) s.heap.objs.size fa (.ref cc)).qual ++ "<lambda>")] ∧ C.own = o_law ∧ tS K C (fun cls d _ H' => E cls d H') (b_law K) D (σ.set 1 (some (.ref p))) H') := by
  have rest : PSs (cxOf (L2.CX P w) P w K mg base N_law "law" (defScope (top 49)) fa (.ref cc) A outer s H E) (defBody (top 49)).tail (fun D σ H' => ∃ C : Fx, C.S.T = [(Pt, (envOfC "law" (defScope (top 49)) s.heap.objs.size fa (.ref cc)).qual ++ "<lambda>")] ∧ C.own = o_law ∧ tS K C (fun cls d _ H' => E cls d H') (b_law K) D σ H') :=
    ⟨fun pins s σ H D I ⟨C, hq, ho, h⟩ => (law_rest c TB hq ho bd).run pins s σ H D I h⟩
  exact pss_cons (ps_pen (i := 0) (j := 1) s_law.nd (pen_fn c) (bd.hr.mono (by decide))) rest
end
end K63
namespace K63
open PySem PySem.Spec PyProof.Rows L2 Dl
section
variable {w : World} {K : PySem.W.Frag} {mg : Str → Option Value} {base : Heap}
/-- what the law comes to, told of its rest -/
def lawOk (K : PySem.W.Frag) (q : PenS) : Prop := ∃ q1, b_law K [none, some .pen, none, none, none] q = .rt (.bl true) q1
theorem law_run (c : Ctx K mg) {cc Pt a : Addr} {ns : List Int} (TB : LamX.TabB base mg cc Pt) (hcc : ∀ {oc od dt osl} {fd : FuncData}, K.lookup (He.ga K "law") = some ⟨oc, od, dt, osl⟩ → dt = .func fd → fd.code = .ref cc) {s : Shared} {H : Hp} (e0 : Env0 P w K mg base callerA [] s H) (hT : H Pt = some (.tbl #[]))
    (hq : SqL K H a (ns.map V.int)) (ok : lawOk K (penOf ns)) : codeAny (model P w) callerA (.call (.ref (He.ga K "law")) ⟨[.ref a], []⟩) (CR (L2.CX P w) [] P w H s (fun v _ => v = .bl true) (fun _ _ _ => False)) s := by
  obtain ⟨fd, Fu⟩ := (c.dk 49 "law" (by decide)).fu
  obtain ⟨oc, od, dV, kV, doc, pm, an, cdv, ct, osl, rfl, lk, hcd, hD, _⟩ := Fu.ex
  have ecd : cdv = .ref cc := hcc lk rfl
  subst ecd
  have hr : Room 13 callerA := ⟨rfl, by decide, by decide⟩
  have hb : BindsTo s (PySem.W.fnOf "law" "law" (defArgs (top 49)) (defBody (top 49)) (defScope (top 49)) dV kV doc pm an (.ref cc) ct) ⟨[.ref a], []⟩ ((["script"] : List Str).zip [.ref a]) := by
    rcases hD with ⟨_, rfl⟩ | ⟨e, _⟩
    · exact .of_eq rfl
    · exact absurd rfl e
  refine LamX.run_ofS (CX := L2.CX P w) (N := N_law) (ps := ["script"]) (us := [.ref a]) (vs := [.ref a]) (E := fun _ _ _ => False) lk hcd s_law hr e0 hb (.cons rfl .nil) rfl fun hr' => ?_
  have bd : Bd true (cxOf (L2.CX P w) P w K mg base N_law "law" (defScope (top 49)) (He.ga K "law") (.ref cc) callerA [] s H (fun _ _ _ => False)) 12 (fun _ _ _ _ => False) := ⟨fun _ => rfl, hr', Dl.takes0, passes_of rfl, rfl⟩
  refine ⟨_, law_all c TB bd, a, ns, rfl, hq, fun p cA H' hp => ?_⟩
  have tabs : LamX.Tabs [(Pt, (envOfC "law" (defScope (top 49)) s.heap.objs.size (He.ga K "law") (.ref cc)).qual ++ "<lambda>")] H := fun q hm => by
    rw [List.mem_singleton.mp hm]
    exact LamX.TabS.nil hT
  have wf := hp.wf tabs
  refine ⟨⟨⟨p, cA, _⟩, fun _ => none, H', o_law⟩, rfl, rfl, [none, some .pen, none, none, none], penOf ns, fun _ => none, ⟨⟨_, wf⟩, wf, .refl, rfl, fun i d hd => ?_, fun i j b _ oi => ?_⟩, ?_⟩
  · match i, hd with
    | 1, hd =>
      cases hd
      exact ⟨.ref p, rfl, Rep.pen⟩
    | 0, hd => cases hd
    | 2, hd => cases hd
    | 3, hd => cases hd
    | 4, hd => cases hd
    | i + 5, hd => simp at hd
  · cases oi
  · obtain ⟨q1, e⟩ := ok
    rw [e]
    intro v F1 H1 _ _ r
    cases r
    rfl
end
end K63
namespace K63
open PySem PySem.Spec PyProof.Rows L2 Dl

def dfK (p : Nat × Str) : He.DefD := ⟨(p.2, none), p.2, p.2, defArgs (top p.1), defBody (top p.1), defScope (top p.1), [], []⟩
def dRow : He.DefD := ⟨("BadRow", some "__init__"), "__init__", "BadRow.__init__", defArgs (meth 5), defBody (meth 5), defScope (meth 5), [], []⟩
def fn : List He.DefD := dRow :: dfs.map dfK
def fa : List He.Fa := frees.map He.Fa.free ++ dfs.map (fun p => He.Fa.glo p.2) ++ faults.map (fun p => He.Fa.glo p.1) ++ [.glo "NONE", .glo "MinorError", .int "MOST" 6] ++
  (faults.flatMap fun c => faults.map fun p => He.Fa.exm c.1 p.1 (decide (c.1 = p.1))) ++ (faults.flatMap fun p => p.2.2.map fun f => He.Fa.noat p.1 f)
def exB (K : PySem.W.Frag) : Bool := decide (PySem.W.nsIn K mainGlobals "gcd" = some (some (.builtin "math.gcd"))) && (tupB K (He.ga K "NONE") [0, 1] && (baseB K (He.ga K "MinorError") && (oexB K (He.ga K "BadRow") && (iniB K (He.ga K "BadRow") && faults.all fun p => xfB K (He.ga K p.1)))))
abbrev R : PySem.W.OpenRow := PySem.W.OpenLaw.row PySem.Challenge.rw_everyminor_k63_changes_of_sign
abbrev hk : PySem.W.Hook := hookY 5 fa fn [("law", none)] exB
def ob (s : PySem.W.SharedT) : He.AlD × Bool := obsY 5 fa fn [("law", none)] exB (HandSHeadRun.getT s)
theorem ob_eq (s : PySem.W.SharedT) : ob s = hk.obs s.abs := obsY_eq (HandSHeadRun.getT_eq s)
def loose0 : List Str := ["MinorError", "BadNumber", "BadLot", "BadRow", "BadTable", "Unlike", "TooMany", "is_whole", "in_tuples", "is_pair", "lowest", "MOST", "NONE", "is_loose", "told_ratio", "loose_row", "row_from", "sign_of", "sign_changes", "changes_by"]
def loose1 : List Str := ["least_changes", "most_by", "next_best", "greatest_changes", "first_by", "first_sign", "_law_pen", "_law_draw", "_law_pick", "_law_gcd", "_law_q", "_law_times", "_law_handed", "_law_passed", "_law_ratio", "_law_fault", "_law_given_row", "_law_sign", "_law_signed", "_law_sign_turns"]
def loose2 : List Str := ["_law_case"]
abbrev loose : List Str := loose0 ++ loose1 ++ loose2
theorem run (w : World) : HandSHeadRun.RunEqI R (PySem.W.view R.prog [0, 49]) hk ob 4000 loose w := by
  unfold HandSHeadRun.RunEqI
  kernel_rfl
end K63
namespace K63
open PySem PySem.Spec PyProof.Rows L2 Dl
def bads : List D := [.non, .int 5, .tup [], .tup [.str "1"], .tup [.bl true], .tup [.tup [.int 1, .int 0]], .tup (List.replicate 7 (.int 1)), .str "1", .tup [.non]]
theorem bad_least : ∀ d ∈ bads, ∀ q, g_least_changes [d] q = .exc "BadRow" [("row", d)] q := by
  intro d hd q
  simp only [bads, List.mem_cons, List.not_mem_nil, or_false] at hd
  rcases hd with rfl | rfl | rfl | rfl | rfl | rfl | rfl | rfl | rfl <;> rfl
theorem bad_greatest : ∀ d ∈ bads, ∀ q, g_greatest_changes [d] q = .exc "BadRow" [("row", d)] q := by
  intro d hd q
  simp only [bads, List.mem_cons, List.not_mem_nil, or_false] at hd
  rcases hd with rfl | rfl | rfl | rfl | rfl | rfl | rfl | rfl | rfl <;> rfl
theorem bad_first : ∀ d ∈ bads, ∀ q, g_first_sign [d] q = .exc "BadRow" [("row", d)] q := by
  intro d hd q
  simp only [bads, List.mem_cons, List.not_mem_nil, or_false] at hd
  rcases hd with rfl | rfl | rfl | rfl | rfl | rfl | rfl | rfl | rfl <;> rfl
end K63
namespace K63
open PySem PySem.Spec PyProof.Rows L2 Dl
theorem repr_of {d : D} {p : PyData} (hp : py d = some p) (h1 : p.showable = true) (h2 : SeqAt.shaped p = true) (h3 : costP p ≤ 1000000) : reprD [d] = some (.str p.shown) := by
  show (showD d).map D.str = _
  unfold showD
  rw [hp]
  dsimp only
  rw [if_pos ⟨h1, h2, h3⟩]
  rfl
theorem eqStr (x : Str) (hx : PyData.strOk x = true) : eqD (.str x) (.str x) = some (.bl true) := by
  have hs : SeqAt.shaped (.str x) = true := by simp [SeqAt.shaped, PyData.canLay0, PyData.depth, hx]
  show (if SeqAt.shaped (.str x) = true ∧ SeqAt.shaped (.str x) = true then some (D.bl (PyData.eqv (.str x) (.str x))) else none) = _
  rw [if_pos ⟨hs, hs⟩]
  simp [PyData.eqv]
theorem bad_repr : ∀ d ∈ bads, ∃ x, reprD [.tup [.str "row", d]] = some (.str x) ∧ eqD (.str x) (.str x) = some (.bl true) := by
  intro d hd
  simp only [bads, List.mem_cons, List.not_mem_nil, or_false] at hd
  rcases hd with rfl | rfl | rfl | rfl | rfl | rfl | rfl | rfl | rfl <;> exact ⟨_, repr_of rfl (by decide +kernel) (by decide +kernel) (by decide +kernel), eqStr _ (by decide +kernel)⟩
theorem work_of (K : PySem.W.Frag) : ∀ f ∈ [He.ga K "least_changes", He.ga K "greatest_changes", He.ga K "first_sign"], ∃ g, workT K f = some g ∧ ∀ d ∈ bads, ∀ q, g [d] q = .exc "BadRow" [("row", d)] q := by
  intro f hf
  unfold workT
  by_cases h1 : f = He.ga K "least_changes"
  · exact ⟨_, if_pos h1, bad_least⟩
  · by_cases h2 : f = He.ga K "greatest_changes"
    · exact ⟨_, by rw [if_neg h1, if_pos h2], bad_greatest⟩
    · simp only [List.mem_cons, List.not_mem_nil, or_false] at hf
      rcases hf with h | h | h
      · exact absurd h h1
      · exact absurd h h2
      · exact ⟨_, by rw [if_neg h1, if_neg h2, if_pos h], bad_first⟩
theorem laps {ρ : DEnv} (h1 : ∀ x, (ρ.set 2 x)[1]? = some (some .pen)) : ∀ (xs : List D) (n : Nat) (q : PenS), Pn n q → n + 39 * xs.length < 300000 → ∃ q', lcM (.nm 2) gYes (gCall 1 g__law_case (mCons (gVar 1) mNil)) ρ xs q = .ok (List.replicate xs.length (.bl true)) q' ∧ Pn (n + 39 * xs.length) q'
  | [], n, q, P, _ => ⟨q, rfl, P⟩
  | x :: xs, n, q, P, hn => by
    rw [List.length_cons] at hn
    obtain ⟨q1, e1, P1⟩ := case_ok P (by omega)
    obtain ⟨q2, e2, P2⟩ := laps h1 xs (n + 39) q1 P1 (by omega)
    refine ⟨q2, ?_, P2.mono (by rw [List.length_cons]; omega)⟩
    unfold lcM
    have et : tgD (.nm 2) x ρ = some (ρ.set 2 (some x)) := rfl
    rw [et]
    show (noX (gCall 1 g__law_case (mCons (gVar 1) mNil) (ρ.set 2 (some x))) q).bd _ = _
    have f1 : gCall 1 g__law_case (mCons (gVar 1) mNil) (ρ.set 2 (some x)) q = .ok (.bl true) q1 := by
      simp only [e_gCall, e_mCons, e_mNil, gVar, h1, bd_ok, List.length_cons, List.length_nil, if_true, e1]
    have f2 : noX (gCall 1 g__law_case (mCons (gVar 1) mNil) (ρ.set 2 (some x))) q = .ok (.bl true) q1 := by unfold noX; rw [f1]
    rw [f2]
    show (lcM (.nm 2) gYes (gCall 1 g__law_case (mCons (gVar 1) mNil)) ρ xs q1).bd _ = _
    rw [e2]
    rfl
def badM : DEnv → M D := gCall 2 g__law_pick (mCons (gVar 1) (mCons (mLst (mCons (gC .non) (mCons (gC (.int 5)) (mCons (mTup mNil) (mCons (mTup (mCons (gC (.str "1")) mNil)) (mCons (mTup (mCons (gC (.bl true)) mNil)) (mCons (mTup (mCons (mTup (mCons (gC (.int 1)) (mCons (gC (.int 0)) mNil))) mNil)) (mCons (g2 mulD (mTup (mCons (gC (.int 1)) mNil)) (gC (.int 7))) (mCons (gC (.str "1")) (mCons (mTup (mCons (gC .non) mNil)) mNil)))))))))) mNil))
def lapM : DEnv → M Bool := gNot (g1 truD (g1 allD (mCons (gLc [2] (g1 rng1D (mCons (gC (.int 8)) mNil)) (.nm 2) gYes (gCall 1 g__law_case (mCons (gVar 1) mNil))) mNil)))
def eltM (K : PySem.W.Frag) : DEnv → M D := g2 eqD (g1 reprD (mCons (fun ρ q => faultRz faults ((gCallL 4 (workT K) 1 (mCons (gVar 3) mNil)) ρ q)) mNil)) (g1 reprD (mCons (mTup (mCons (gC (.str "row")) (mCons (gVar 3) mNil))) mNil))
def endM (K : PySem.W.Frag) : DEnv → M D := g1 allD (mCons (gLc [4] (g1 seqD (mTup (mCons (gC (.ref (He.ga K "least_changes"))) (mCons (gC (.ref (He.ga K "greatest_changes"))) (mCons (gC (.ref (He.ga K "first_sign"))) mNil))))) (.nm 4) gYes (eltM K)) mNil)
theorem law_split (K : PySem.W.Frag) : b_law K = sSeq (sIf lapM (sRet (gC (.bl false))) sNext) (sSeq (sSet 3 badM) (sRet (endM K))) := rfl
theorem lap_ok {ρ : DEnv} {n : Nat} {q : PenS} (h1 : ∀ x, ((ρ.set 2 none).set 2 x)[1]? = some (some .pen)) (P : Pn n q) (hn : n < 1000) : ∃ q', lapM ρ q = .ok false q' ∧ Pn (n + 312) q' := by
  obtain ⟨q', e, P'⟩ := laps (ρ := ρ.set 2 none) h1 (rngL 0 8) n q P (by show n + 39 * 8 < 300000; omega)
  refine ⟨q', ?_, P'⟩
  have er : rng1D [.int 8] = some (rngL 0 8) := rfl
  have el : List.replicate (rngL 0 8).length (D.bl true) = List.replicate 8 (D.bl true) := rfl
  rw [el] at e
  have ea : allD [.lst (List.replicate 8 (D.bl true))] = some (.bl true) := rfl
  have h8 : (List.replicate 8 (D.bl true)).length ≤ 100000 := by decide
  unfold lapM
  simp only [e_gNot, e_g1, e_mCons, e_mNil, e_gLc, e_gC, bd_ok, er, lift_some, e_wipe0, e_wipe1, e, h8, if_true, ea, truD_bl, Bool.not_true]
theorem bad_ok {ρ : DEnv} {n : Nat} {q : PenS} (h1 : ρ[1]? = some (some .pen)) (P : Pn n q) (hn : n < 1000) : ∃ d q', badM ρ q = .ok d q' ∧ d ∈ bads ∧ Pn (n + 1) q' := by
  obtain ⟨d, q', e, m, P'⟩ := pick_ok (xs := bads) (by simp [bads]) (by simp [bads]) P (by omega)
  refine ⟨d, q', ?_, m, P'⟩
  have em : mulD (.tup [.int 1]) (.int 7) = some (.tup [.int 1, .int 1, .int 1, .int 1, .int 1, .int 1, .int 1]) := rfl
  have eb : bads = [.non, .int 5, .tup [], .tup [.str "1"], .tup [.bl true], .tup [.tup [.int 1, .int 0]], .tup [.int 1, .int 1, .int 1, .int 1, .int 1, .int 1, .int 1], .str "1", .tup [.non]] := rfl
  rw [eb] at e
  unfold badM
  simp [gVar, h1, em, e]
theorem elt_ok {K : PySem.W.Frag} {ρ : DEnv} {q : PenS} {d : D} {f : Addr} (hd : d ∈ bads) (h3 : ρ[3]? = some (some d)) (h4 : ρ[4]? = some (some (.ref f))) (hf : f ∈ [He.ga K "least_changes", He.ga K "greatest_changes", He.ga K "first_sign"]) : eltM K ρ q = .ok (.bl true) q := by
  obtain ⟨g, hg, hx⟩ := work_of K f hf
  obtain ⟨x, r1, r2⟩ := bad_repr d hd
  have e1 : gCallL 4 (workT K) 1 (mCons (gVar 3) mNil) ρ q = .exc "BadRow" [("row", d)] q := by
    unfold gCallL
    rw [h4]
    dsimp only
    rw [hg]
    dsimp only
    simp only [e_gCall, e_mCons, e_mNil, gVar, h3, bd_ok, List.length_cons, List.length_nil, if_true, hx d hd]
  have e2 : faultRz faults (.exc "BadRow" [("row", d)] q) = .ok (.tup [.str "row", d]) q := rfl
  have h2 : (0 + 1 + 1 : Nat) ≤ 100000 := by decide
  unfold eltM
  simp only [e_g2, e_g1, e_mCons, e_mNil, e_mTup, e_gC, gVar, h3, e1, e2, bd_ok, List.length_cons, List.length_nil, h2, if_true, r1, lift_some, r2]
theorem end_ok {K : PySem.W.Frag} {x0 x1 x2 x4 : Option D} {q : PenS} {d : D} (hd : d ∈ bads) : endM K [x0, x1, x2, some d, x4] q = .ok (.bl true) q := by
  have e1 : lcM (.nm 4) gYes (eltM K) [x0, x1, x2, some d, none] [.ref (He.ga K "least_changes"), .ref (He.ga K "greatest_changes"), .ref (He.ga K "first_sign")] q = .ok ([D.bl true, D.bl true, D.bl true]) q := by
    have := lcM_map (t := .nm 4) (elt := eltM K) (ρ := [x0, x1, x2, some d, none]) (q := q) (f := fun _ => D.bl true) (xs := [.ref (He.ga K "least_changes"), .ref (He.ga K "greatest_changes"), .ref (He.ga K "first_sign")]) fun x hx => by
      have : ∃ f, x = .ref f ∧ f ∈ [He.ga K "least_changes", He.ga K "greatest_changes", He.ga K "first_sign"] := by
        simp only [List.mem_cons, List.not_mem_nil, or_false] at hx
        rcases hx with rfl | rfl | rfl
        · exact ⟨_, rfl, by simp⟩
        · exact ⟨_, rfl, by simp⟩
        · exact ⟨_, rfl, by simp⟩
      obtain ⟨f, rfl, hf⟩ := this
      exact ⟨[x0, x1, x2, some d, some (.ref f)], rfl, elt_ok hd rfl rfl hf⟩
    exact this
  have ea : allD [.lst [D.bl true, D.bl true, D.bl true]] = some (.bl true) := rfl
  have h3 : (0 + 1 + 1 + 1 : Nat) ≤ 100000 := by decide
  unfold endM
  simp only [e_g1, e_mCons, e_mNil, e_mTup, e_gC, e_gLc, bd_ok, List.length_cons, List.length_nil, h3, if_true, lift_some, seqD_tup, e_wipe0, e_wipe1, List.set_cons_succ, List.set_cons_zero, e1, ea]
theorem plain (K : PySem.W.Frag) (ns : List Int) (_ : ns.length ≤ 63) : lawOk K (penOf ns) := by
  have hb := foldI_bd ns
  have P : Pn 0 (penOf ns) := ⟨⟨Int.le_refl 0, Int.le_refl 0, Int.le_refl 0, hb.1, Int.lt_trans hb.2 (by decide)⟩, Int.le_refl 0⟩
  obtain ⟨q1, e1, P1⟩ := lap_ok (ρ := [none, some .pen, none, none, none]) (fun _ => rfl) P (by decide)
  obtain ⟨d, q2, e2, hd, P2⟩ := bad_ok (ρ := [none, some .pen, none, none, none]) rfl P1 (by decide)
  refine ⟨q2, ?_⟩
  have e3 := end_ok (K := K) (x0 := none) (x1 := some .pen) (x2 := none) (x4 := none) (q := q2) hd
  rw [law_split]
  simp only [e_sSeq, e_sIf, e1, st_ok, Bool.false_eq_true, if_false, e_sNext, sq_nx, e_sSet, e2, List.set_cons_succ, List.set_cons_zero, e_sRet, e3]
end K63
namespace K63
open PySem PySem.Spec PyProof.Rows L2 Dl
theorem ctx_of {K : PySem.W.Frag} {h h2 : Heap} {mg : Str → Option Value} (X : K.In h) (G : h.Ns mainGlobals mg) (c : SaysY fa fn [("law", none)] exB h2 K) : Ctx K mg := by
  have fact : ∀ {f : He.Fa}, f ∈ fa → f.ok K = true := fun {f} hf => c.d.facts hf
  have glo : ∀ {x : Str}, He.Fa.glo x ∈ fa → mg x = some (.ref (He.ga K x)) := fun {x} hf => He.glo_ok X G (fact hf)
  obtain ⟨m1, m⟩ := He.ba c.more
  obtain ⟨m2, m⟩ := He.ba m
  obtain ⟨m3, m⟩ := He.ba m
  obtain ⟨m4, m⟩ := He.ba m
  obtain ⟨m5, m6⟩ := He.ba m
  have inA : ∀ {f : He.Fa}, f ∈ dfs.map (fun p => He.Fa.glo p.2) → f ∈ fa := fun {f} hf => by
    unfold fa
    simp only [List.mem_append]
    exact .inl (.inl (.inl (.inl (.inr hf))))
  have inB : ∀ {f : He.Fa}, f ∈ faults.map (fun p => He.Fa.glo p.1) → f ∈ fa := fun {f} hf => by
    unfold fa
    simp only [List.mem_append]
    exact .inl (.inl (.inl (.inr hf)))
  have inC : ∀ {f : He.Fa}, f ∈ [He.Fa.glo "NONE", .glo "MinorError", .int "MOST" 6] → f ∈ fa := fun {f} hf => by
    unfold fa
    simp only [List.mem_append]
    exact .inl (.inl (.inr hf))
  refine ⟨fun x hx => He.free_ok X G (fact ?_), fun i x hx => ⟨?_, glo (inA (List.mem_map.mpr ⟨(i, x), hx, rfl⟩))⟩, PySem.W.mg_of X G (of_decide_eq_true m1), He.int_ok X G (fact (inC (.tail _ (.tail _ (.head _))))), ⟨glo (inC (.head _)), tupB_ok m2⟩,
    ⟨glo (inC (.tail _ (.head _))), (baseB_ok m3).1, (baseB_ok m3).2⟩, fun p hp => glo (inB (List.mem_map.mpr ⟨p, hp, rfl⟩)), fun p hp => xfB_ok (List.all_eq_true.mp m6 p hp), fun p hp f hf => He.noat_ok (fact ?_), fun p hp r hr => He.exm_ok (fact ?_),
    ⟨glo (inB (List.mem_map.mpr ⟨_, .tail _ (.tail _ (.head _)), rfl⟩)), oexB_ok m4, (iniB_ok m5).1, (iniB_ok m5).2, fun f hf => ?_, ?_⟩⟩
  · unfold fa
    simp only [List.mem_append]
    exact .inl (.inl (.inl (.inl (.inl (List.mem_map.mpr ⟨x, hx, rfl⟩)))))
  · exact c.d.defs (d := dfK (i, x)) (.tail _ (List.mem_map.mpr ⟨(i, x), hx, rfl⟩))
  · unfold fa
    simp only [List.mem_append]
    exact .inr (List.mem_flatMap.mpr ⟨p, hp, List.mem_map.mpr ⟨f, hf, rfl⟩⟩)
  · unfold fa
    simp only [List.mem_append]
    exact .inl (.inr (List.mem_flatMap.mpr ⟨p, hp, List.mem_map.mpr ⟨r, hr, rfl⟩⟩))
  · refine He.noat_ok (fact ?_)
    unfold fa
    simp only [List.mem_append]
    exact .inr (List.mem_flatMap.mpr ⟨_, .tail _ (.tail _ (.head _)), List.mem_map.mpr ⟨f, hf, rfl⟩⟩)
  · exact c.d.defs (d := dRow) (.head _)
abbrev lawRec : DefRec := HandSHeadRun.topDef R.prog 49
theorem walk (plain : ∀ (K : PySem.W.Frag) (ns : List Int), ns.length ≤ 63 → lawOk K (penOf ns)) : PySem.W.WalkO (PySem.W.view R.prog [0, 49]) loose (PySem.W.XL (PySem.W.view R.prog [0, 49]) []) hk.says R.toRowW lawRec [] (fun f vs => PySem.call f vs) := by
  refine Att.attach_callB (l := PySem.Challenge.rw_everyminor_k63_changes_of_sign) (n := 63) rfl (by kernel_rfl) fun w s₀ s1 mg mb fa o pm cd doc a vs ns G Y ho hd hcd hmg hobj hints hlen hbits hg => ?_
  obtain ⟨K, KX, y⟩ := Y
  have c : Ctx K mg := ctx_of KX G.T.g y
  have dk := c.dk 49 "law" (by decide)
  have hlaw : mg ("law" : Str) = some (.ref fa) := by
    rw [← show lawRec.name = ("law" : Str) by kernel_rfl]
    exact hmg
  have efa : fa = He.ga K "law" := by
    have e := dk.mg
    rw [show mg "law" = some (.ref fa) from hlaw] at e
    cases e
    rfl
  subst efa
  refine law_end (cs := [He.cT K ("law", none)]) KX G.T.g G.T.b G.T.builtins G.T.nolimit hg (fun p hp => ?_) (fun p hp => ?_) (fun p hp => ?_) G.T.bmain hobj hints (by rw [sizeLine_eq]; omega) fun base H kinB nsB tb e0 hT hq => ?_
  · rw [List.mem_singleton.mp hp]
    exact y.empty _ (.head _)
  · rw [List.mem_singleton.mp hp]
    exact y.out _ (.head _)
  · rw [List.mem_singleton.mp hp]
    exact PySem.W.codeHd_of_K KX (y.hd _ (.head _))
  · refine law_run c (cc := (He.cT K ("law", none)).1) (Pt := (He.cT K ("law", none)).2) (tb _ (.head _)) (fun {oc od dt osl fd} lk ed => ?_) e0 (hT _ (.head _)) hq (plain K ns hlen)
    subst ed
    obtain ⟨fd2, Fu⟩ := dk.fu
    obtain ⟨_, _, _, _, _, _, _, cdv, _, _, rfl, lk2, hc2, _⟩ := Fu.ex
    rw [lk] at lk2
    cases lk2
    obtain ⟨cc, ec⟩ := He.codeIn_ref hc2
    subst ec
    show Value.ref cc = .ref (He.codeOf K ("law", none))
    rw [He.codeOf_eq (p := ("law", none)) lk rfl]
end K63
open PySem PySem.W PySem.Calls PyProof.Rows
theorem K63.holds (plain : ∀ (K : PySem.W.Frag) (ns : List Int), ns.length ≤ 63 → K63.lawOk K (Dl.penOf ns)) : PySem.Challenge.rw_everyminor_k63_changes_of_sign.Holds := by
  w_on; o_law
  refine HandSHeadRun.head_imp (r := OpenLaw.row PySem.Challenge.rw_everyminor_k63_changes_of_sign) (q := view (OpenLaw.row PySem.Challenge.rw_everyminor_k63_changes_of_sign).prog [0, 49]) (H := K63.hk) (ob := K63.ob) (M := 4000) (loose := K63.loose) (d := K63.lawRec) (kwd := []) K63.ob_eq K63.run
    (by kernel_rfl) (by kernel_rfl) (by kernel_rfl) (by rfl) (by first | assumption | decide +kernel) (by decide +kernel) ⟨rfl, rfl, rfl, rfl, rfl, by decide +kernel⟩ ?hw ?hc
  case hw => w_witness2
  case hc => exact K63.walk plain
theorem PySem.Challenge.cw_everyminor_k63_changes_of_sign_holds : PySem.Challenge.rw_everyminor_k63_changes_of_sign.Holds := by
  exact K63.holds K63.plain
