import PyProof.Rows.All
import Wide.All
import OpenK.AllK
import Wide.FinOn
import HandS.ForMost
import HandS.ForExc
import HandS.IsInst
import HandS.Style
import HandS.TupMul
import HandS.TupAny
import HandS.TupLe
import HandS.Walk
import HandS.Wide
import HandS.Lambda
import HandS.Defaults
import KE.DataEq
import HandS.SortInts
import HandS.RaiseMore
import KE.GoesEnum
import HandS.ExcValue
import HandS.ExcIs
import KE.KExcIs
import HandS.Head0
import HandS.Head1
import HandS.Head2
import HandS.HeadEnd
import HandS.HeadHook1
import HandS.HeadHook2
import HandS.HeadHook3
import HandS.HeadHook4
import HandS.HeadWalk
import KE.KStateDown
import PySem.Challenge.RW_toldatpowers_k00_whole_polynomials
import HandS.NestedK
set_option Elab.async false
set_option linter.all false
set_option maxRecDepth 100000
set_option maxHeartbeats 4000000
/-! DL1: pure data over the abstract heap: D, what holds it (Den, Cont, DB), the slots' data (PV), the relation Rel, and what an expression or a statement does to it (SimE, SimT, SimA, SimS). -/
namespace DL
open PySem PySem.Spec PyProof.Rows L2

abbrev St := L2.St
/-- an exception of the class at C, its number told (TooMany's most) -/
structure PErr where
  C : Addr
  m : Option Int := none
def ErrAt (F : Addr → Prop) (H : Hp) (e : PErr) (dd : Option Addr) : Prop :=
  match e.m with
  | none => dd = none
  | some m => ∃ d, dd = some d ∧ F d ∧ H d = some (.xd [(("most" : Str), V.int m)])
/-- an exception object of the class cls, its dict at d -/
def ExC (cls : Value) (d : Option Addr) (a : Addr) : HO := .ext fun h => ∃ (oe : Obj) (vs : Array Value), h.get? a = some oe ∧ Zc cls d oe ∧ oe.data = .fields vs
theorem ErrAt.mono {F F' : Addr → Prop} {H H' : Hp} {e : PErr} {dd : Option Addr} (hF : ∀ a, F a → F' a) (hH : ∀ a, F a → H' a = H a) (h : ErrAt F H e dd) : ErrAt F' H' e dd := by
  unfold ErrAt at h ⊢
  split at h
  · exact h
  · obtain ⟨d, e1, f, e2⟩ := h
    exact ⟨d, e1, hF _ f, (hH _ f).trans e2⟩
/-- plain data; ref: an opaque address (a def, a class, the draws); exc: a caught exception -/
inductive D where
  | non | bl (b : Bool) | int (i : Int) | str (x : Str) | ty (n : String) | ref (a : Addr)
  | lst (l : List D) | tup (l : List D) | dic (ks vs : List D) | exc (e : PErr) | scr (ns : List Int)

def kD : Key → D
  | .inl i => .int i
  | .inr x => .str x

/-- a tuple of the written part -/
def KT (K : PySem.W.Frag) (a : Addr) (xs : List V) : Prop :=
  ∃ (o : Obj) (its : Array Value) (n : Nat), K.lookup a = some o ∧ o.cls = .type "tuple" ∧ o.data = .seq its n ∧ its.size ≤ sizeLine ∧ Vals xs its.toList
/-- a list of the written part -/
def KL (K : PySem.W.Frag) (a : Addr) (xs : List V) : Prop :=
  ∃ (o : Obj) (its : Array Value) (n : Nat), K.lookup a = some o ∧ o.cls = .type "list" ∧ o.dict = none ∧ o.data = .seq its n ∧ its.size ≤ sizeLine ∧ Vals xs its.toList

mutual
/-- v denotes d; all that it leans on stands in F (and is never changed) -/
inductive Den (K : PySem.W.Frag) (F : Addr → Prop) (H : Hp) : V → D → Prop
  | non : Den K F H .non .non
  | bl (b : Bool) : Den K F H (.bl b) (.bl b)
  | int (i : Int) : Den K F H (.int i) (.int i)
  | str (x : Str) : Den K F H (.str x) (.str x)
  | ty (n : String) : Den K F H (.ty n) (.ty n)
  | ref (a : Addr) : Den K F H (.ref a) (.ref a)
  | lst {a : Addr} {xs : List V} {ds : List D} : F a → H a = some (.lst xs) → Dens K F H xs ds → Den K F H (.ref a) (.lst ds)
  | tup {a : Addr} {xs : List V} {ds : List D} : (F a ∧ H a = some (.tup xs)) ∨ KT K a xs → Dens K F H xs ds → Den K F H (.ref a) (.tup ds)
  | dic {a : Addr} {kvs : List (Key × V)} {vs : List D} : F a → H a = some (.dK kvs) → Dens K F H (kvs.map (·.2)) vs → Den K F H (.ref a) (.dic (kvs.map fun p => kD p.1) vs)
  | exc {a : Addr} {e : PErr} {dd : Option Addr} : F a → H a = some (ExC (.ref e.C) dd a) → ErrAt F H e dd → Den K F H (.ref a) (.exc e)
  | scr {a : Addr} {ns : List Int} : (F a ∧ Rd H a (.lst (ns.map V.int))) ∨ KL K a (ns.map V.int) → Den K F H (.ref a) (.scr ns)
inductive Dens (K : PySem.W.Frag) (F : Addr → Prop) (H : Hp) : List V → List D → Prop
  | nil : Dens K F H [] []
  | cons {v : V} {vs : List V} {d : D} {ds : List D} : Den K F H v d → Dens K F H vs ds → Dens K F H (v :: vs) (d :: ds)
end

section
variable {K : PySem.W.Frag} {F F' : Addr → Prop} {H H' : Hp}
mutual
theorem Den.mono (hF : ∀ a, F a → F' a) (hH : ∀ a, F a → H' a = H a) : ∀ {v : V} {d : D}, Den K F H v d → Den K F' H' v d
  | _, _, .non => .non
  | _, _, .bl b => .bl b
  | _, _, .int i => .int i
  | _, _, .str x => .str x
  | _, _, .ty n => .ty n
  | _, _, .ref a => .ref a
  | _, _, .lst f e r => .lst (hF _ f) ((hH _ f).trans e) (Dens.mono hF hH r)
  | _, _, .tup f r => .tup (f.imp (fun z => ⟨hF _ z.1, (hH _ z.1).trans z.2⟩) id) (Dens.mono hF hH r)
  | _, _, .dic f e r => .dic (hF _ f) ((hH _ f).trans e) (Dens.mono hF hH r)
  | _, _, .exc f e r => .exc (hF _ f) ((hH _ f).trans e) (r.mono hF hH)
  | _, _, .scr f => .scr (f.imp (fun z => ⟨hF _ z.1, by unfold Rd; rw [hH _ z.1]; exact z.2⟩) id)
theorem Dens.mono (hF : ∀ a, F a → F' a) (hH : ∀ a, F a → H' a = H a) : ∀ {vs : List V} {ds : List D}, Dens K F H vs ds → Dens K F' H' vs ds
  | _, _, .nil => .nil
  | _, _, .cons h t => .cons (Den.mono hF hH h) (Dens.mono hF hH t)
end
theorem Dens.length : ∀ {vs : List V} {ds : List D}, Dens K F H vs ds → vs.length = ds.length
  | _, _, .nil => rfl
  | _, _, .cons _ t => by rw [List.length_cons, List.length_cons, Dens.length t]
theorem Dens.append : ∀ {vs ws : List V} {ds es : List D}, Dens K F H vs ds → Dens K F H ws es → Dens K F H (vs ++ ws) (ds ++ es)
  | _, _, _, _, .nil, s => s
  | _, _, _, _, .cons h t, s => .cons h (Dens.append t s)
theorem Dens.get : ∀ {vs : List V} {ds : List D} {i : Nat} {v : V}, Dens K F H vs ds → vs[i]? = some v → ∃ d, ds[i]? = some d ∧ Den K F H v d
  | _, _, _, _, .nil, e => by simp at e
  | _, _, 0, _, .cons h _, e => by simp at e; subst e; exact ⟨_, rfl, h⟩
  | _, _, i + 1, v, .cons _ t, e => by
    obtain ⟨d, h1, h2⟩ := Dens.get (i := i) (v := v) t (by simpa using e)
    exact ⟨d, by simpa using h1, h2⟩
theorem Dens.getD : ∀ {vs : List V} {ds : List D} {i : Nat} {d : D}, Dens K F H vs ds → ds[i]? = some d → ∃ v, vs[i]? = some v ∧ Den K F H v d
  | _, _, _, _, .nil, e => by simp at e
  | _, _, 0, _, .cons h _, e => by simp at e; subst e; exact ⟨_, rfl, h⟩
  | _, _, i + 1, d, .cons _ t, e => by
    obtain ⟨v, h1, h2⟩ := Dens.getD (i := i) (d := d) t (by simpa using e)
    exact ⟨v, by simpa using h1, h2⟩
theorem Dens.set {v : V} {d : D} (h : Den K F H v d) : ∀ {vs : List V} {ds : List D} (i : Nat), Dens K F H vs ds → Dens K F H (vs.set i v) (ds.set i d)
  | _, _, _, .nil => .nil
  | _, _, 0, .cons _ t => .cons h t
  | _, _, i + 1, .cons q t => .cons q (Dens.set h i t)
theorem Dens.take : ∀ {vs : List V} {ds : List D} (n : Nat), Dens K F H vs ds → Dens K F H (vs.take n) (ds.take n)
  | _, _, 0, _ => by simpa using Dens.nil
  | _, _, _ + 1, .nil => .nil
  | _, _, n + 1, .cons r t => .cons r (Dens.take n t)
theorem Dens.drop : ∀ {vs : List V} {ds : List D} (n : Nat), Dens K F H vs ds → Dens K F H (vs.drop n) (ds.drop n)
  | _, _, 0, r => r
  | _, _, _ + 1, .nil => .nil
  | _, _, n + 1, .cons _ t => Dens.drop n t
theorem Dens.rev : ∀ {vs : List V} {ds : List D}, Dens K F H vs ds → Dens K F H vs.reverse ds.reverse
  | _, _, .nil => .nil
  | _, _, .cons h t => by
    rw [List.reverse_cons, List.reverse_cons]
    exact (Dens.rev t).append (.cons h .nil)
theorem Dens.dropLast : ∀ {vs : List V} {ds : List D}, Dens K F H vs ds → Dens K F H vs.dropLast ds.dropLast := fun {vs ds} h => by
  rw [List.dropLast_eq_take, List.dropLast_eq_take, h.length]
  exact h.take _
theorem Dens.rep {vs : List V} {ds : List D} (h : Dens K F H vs ds) : ∀ k : Nat, Dens K F H (List.replicate k vs).flatten (List.replicate k ds).flatten
  | 0 => .nil
  | k + 1 => by
    rw [List.replicate_succ, List.replicate_succ, List.flatten_cons, List.flatten_cons]
    exact h.append (Dens.rep h k)
theorem Dens.ints : ∀ (ns : List Int), Dens K F H (ns.map V.int) (ns.map D.int)
  | [] => .nil
  | n :: r => .cons (.int n) (Dens.ints r)
theorem Den.intE {v : V} {i : Int} (h : Den K F H v (.int i)) : v = .int i := by cases h; rfl
theorem Den.blE {v : V} {b : Bool} (h : Den K F H v (.bl b)) : v = .bl b := by cases h; rfl
theorem Den.strE {v : V} {x : Str} (h : Den K F H v (.str x)) : v = .str x := by cases h; rfl
theorem Den.nonE {v : V} (h : Den K F H v .non) : v = .non := by cases h; rfl
theorem Den.tyE {v : V} {n : String} (h : Den K F H v (.ty n)) : v = .ty n := by cases h; rfl
theorem Den.refE {v : V} {a : Addr} (h : Den K F H v (.ref a)) : v = .ref a := by cases h; rfl
theorem Dens.intsE : ∀ {ns : List Int} {vs : List V}, Dens K F H vs (ns.map D.int) → vs = ns.map V.int
  | [], _, h => by cases h; rfl
  | n :: r, _, h => by
    cases h with
    | cons h t => rw [h.intE, Dens.intsE t]; rfl
end

theorem Den.scrE {K : PySem.W.Frag} {F : Addr → Prop} {H : Hp} {v : V} {ns : List Int} (h : Den K F H v (.scr ns)) : ∃ a, v = .ref a ∧ SqL K H a (ns.map V.int) := by
  cases h with
  | scr f =>
    refine ⟨_, rfl, ?_⟩
    rcases f with ⟨_, e⟩ | q
    · exact .inl e
    · exact .inr q
/-- what stands at a, a list or a dict; its items stand in F -/
def Cont (K : PySem.W.Frag) (F : Addr → Prop) (H : Hp) (a : Addr) : D → Prop
  | .lst ds => ∃ xs, H a = some (.lst xs) ∧ Dens K F H xs ds
  | .dic ks vs => ∃ kvs, H a = some (.dK kvs) ∧ ks = kvs.map (fun p => kD p.1) ∧ Dens K F H (kvs.map (·.2)) vs
  | _ => False
/-- v is d at this moment -/
def DB (K : PySem.W.Frag) (F : Addr → Prop) (H : Hp) (v : V) : D → Prop
  | .lst ds => ∃ a xs, v = .ref a ∧ H a = some (.lst xs) ∧ Dens K F H xs ds
  | .dic ks vs => ∃ a kvs, v = .ref a ∧ H a = some (.dK kvs) ∧ ks = kvs.map (fun p => kD p.1) ∧ Dens K F H (kvs.map (·.2)) vs
  | d => Den K F H v d
theorem Den.db {K : PySem.W.Frag} {F : Addr → Prop} {H : Hp} {v : V} {d : D} (h : Den K F H v d) : DB K F H v d := by
  cases h with
  | non => exact .non
  | bl b => exact .bl b
  | int i => exact .int i
  | str x => exact .str x
  | ty n => exact .ty n
  | ref a => exact .ref a
  | lst f e r => exact ⟨_, _, rfl, e, r⟩
  | tup f r => exact .tup f r
  | dic f e r => exact ⟨_, _, rfl, e, rfl, r⟩
  | exc f e r => exact .exc f e r
  | scr f => exact .scr f
theorem Den.tupE {K : PySem.W.Frag} {F : Addr → Prop} {H : Hp} {v : V} {ds : List D} (h : Den K F H v (.tup ds)) : ∃ a xs, v = .ref a ∧ SqT K H a xs ∧ Dens K F H xs ds := by
  cases h with
  | tup f r =>
    refine ⟨_, _, rfl, ?_, r⟩
    rcases f with ⟨_, e⟩ | q
    · exact .of e
    · exact .inr q
theorem Cont.db {K : PySem.W.Frag} {F : Addr → Prop} {H : Hp} {a : Addr} {d : D} (h : Cont K F H a d) : DB K F H (.ref a) d := by
  cases d with
  | lst ds => obtain ⟨xs, e, r⟩ := h; exact ⟨a, xs, rfl, e, r⟩
  | dic ks vs => obtain ⟨kvs, e, q, r⟩ := h; exact ⟨a, kvs, rfl, e, q, r⟩
  | _ => exact h.elim
theorem Cont.there {K : PySem.W.Frag} {F : Addr → Prop} {H : Hp} {a : Addr} {d : D} (h : Cont K F H a d) : H a ≠ none := by
  cases d with
  | lst ds => obtain ⟨xs, e, r⟩ := h; rw [e]; simp
  | dic ks vs => obtain ⟨kvs, e, q, r⟩ := h; rw [e]; simp
  | _ => exact h.elim
theorem Cont.mono {K : PySem.W.Frag} {F F' : Addr → Prop} {H H' : Hp} {a : Addr} {d : D} (hF : ∀ a, F a → F' a) (hH : ∀ a, F a → H' a = H a) (ha : H' a = H a) (h : Cont K F H a d) : Cont K F' H' a d := by
  cases d with
  | lst ds => obtain ⟨xs, e, r⟩ := h; exact ⟨xs, ha.trans e, r.mono hF hH⟩
  | dic ks vs => obtain ⟨kvs, e, q, r⟩ := h; exact ⟨kvs, ha.trans e, q, r.mono hF hH⟩
  | _ => exact h.elim
/-- a thing of one's own is frozen -/
theorem Cont.den {K : PySem.W.Frag} {F F' : Addr → Prop} {H : Hp} {a : Addr} {d : D} (hF : ∀ a, F a → F' a) (ha : F' a) (h : Cont K F H a d) : Den K F' H (.ref a) d := by
  cases d with
  | lst ds => obtain ⟨xs, e, r⟩ := h; exact .lst ha e (r.mono hF fun _ _ => rfl)
  | dic ks vs => obtain ⟨kvs, e, q, r⟩ := h; subst q; exact .dic ha e (r.mono hF fun _ _ => rfl)
  | _ => exact h.elim

/-- a slot: nothing known, data that stays, a list or dict of its own -/
inductive PV where
  | no | val (d : D) | own (d : D)
/-- a value that an expression gives: data that stays; what slot i owns; a new list or dict that nobody else holds -/
inductive RV where
  | v (d : D) | b (i : Nat) (d : D) | f (d : D)
def RV.d : RV → D
  | .v d => d
  | .b _ d => d
  | .f d => d

/-- the bounds of the draws' numbers -/
def DrawN (w c : Int) (cells : List Int) : Prop := 0 ≤ w ∧ 0 ≤ c ∧ cells.length ≤ 63
/-- what may be changed behind one's back: the draws' dict, the tables of code objects -/
structure GE where
  a : Option Addr := none
  T : List (Addr × Str) := []
def Fix (g : GE) (a : Addr) : Prop := some a ≠ g.a ∧ ∀ p ∈ g.T, p.1 ≠ a
/-- the draws stand at da.a, the tables as they should -/
def DrawOk (F : Addr → Prop) (H : Hp) (da : GE) : Prop :=
  (∀ a, da.a = some a → ¬ F a ∧ ∃ (w c : Int) (ca : Addr) (cells : List Int), H a = some (.dK [(.inr "whole", .int w), (.inr "cells", .ref ca), (.inr "count", .int c)]) ∧ F ca ∧ H ca = some (.lst (cells.map V.int)) ∧ DrawN w c cells) ∧ ∀ p ∈ da.T, ¬ F p.1 ∧ LamX.TabS H p.1 p.2
theorem DrawOk.fix {F : Addr → Prop} {H : Hp} {da : GE} (d : DrawOk F H da) {a : Addr} (h : H a = none) : Fix da a := by
  refine ⟨fun z => ?_, fun p hp z => ?_⟩
  · obtain ⟨_, w, c, ca, cells, e, _⟩ := d.1 a z.symm
    rw [h] at e; cases e
  · obtain ⟨_, ps, e, _⟩ := d.2 p hp
    rw [z, h] at e; cases e
theorem DrawOk.fixF {F : Addr → Prop} {H : Hp} {da : GE} (d : DrawOk F H da) {a : Addr} (h : F a) : Fix da a := ⟨fun z => (d.1 a z.symm).1 h, fun p hp z => (d.2 p hp).1 (by rw [z]; exact h)⟩

def SlotOk (K : PySem.W.Frag) (F : Addr → Prop) (H : Hp) (o : Option (Option V)) : PV → Prop
  | .no => True
  | .val d => ∃ v, o = some (some v) ∧ Den K F H v d
  | .own d => ∃ a, o = some (some (.ref a)) ∧ ¬ F a ∧ Cont K F H a d
/-- a is owned by a slot -/
def Own (ps : List PV) (σ : St) (a : Addr) : Prop := ∃ (i : Nat) (d : D), ps[i]? = some (.own d) ∧ σ[i]? = some (some (.ref a))

/-- what a def's entry was (H0, F0), and what stays through a loop (Fp, as in Hq) -/
structure Base where
  H0 : Hp
  F0 : Addr → Prop
  Fp : Addr → Prop
  Hq : Hp
structure Rel (K : PySem.W.Frag) (da : GE) (B : Base) (F : Addr → Prop) (ps : List PV) (σ : St) (H : Hp) : Prop where
  len : ps.length = σ.length
  slot : ∀ (i : Nat) (pv : PV), ps[i]? = some pv → SlotOk K F H σ[i]? pv
  dist : ∀ (i j : Nat) (di dj : D) (a : Addr), ps[i]? = some (.own di) → ps[j]? = some (.own dj) → σ[i]? = some (some (.ref a)) → σ[j]? = some (some (.ref a)) → i = j
  draw : DrawOk F H da
  keep : ∀ a o, B.H0 a = some o → Fix da a → H a = some o
  sub : ∀ a, B.Fp a → F a
  prot : ∀ a, B.Fp a → H a = B.Hq a
  fresh : ∀ a, F a → B.H0 a ≠ none → B.F0 a
  ownNew : ∀ a, Own ps σ a → B.H0 a = none
  dom : ∀ a, F a → H a ≠ none
  daOld : ∀ a, B.H0 a = none → Fix da a

/-- a step of an expression: O, O' what is owned ahead of it and behind it -/
structure StpO (da : GE) (F : Addr → Prop) (O : Addr → Prop) (H : Hp) (F' : Addr → Prop) (O' : Addr → Prop) (H' : Hp) : Prop where
  keep : ∀ a o, H a = some o → ¬ O a → Fix da a → H' a = some o
  sub : ∀ a, F a → F' a
  fresh : ∀ a, F' a → H a ≠ none → F a ∨ O a
  own : ∀ a, O' a → O a
  there : ∀ a, H a ≠ none → H' a ≠ none
abbrev Stp (da : GE) (F : Addr → Prop) (ps : List PV) (σ : St) (H : Hp) (F' : Addr → Prop) (ps' : List PV) (H' : Hp) : Prop := StpO da F (Own ps σ) H F' (Own ps' σ) H'
theorem StpO.trans {da : GE} {F F' F'' O O' O'' : Addr → Prop} {H H' H'' : Hp} (s : StpO da F O H F' O' H') (t : StpO da F' O' H' F'' O'' H'') : StpO da F O H F'' O'' H'' :=
  ⟨fun a o h n e => t.keep a o (s.keep a o h n e) (fun z => n (s.own a z)) e, fun a h => t.sub a (s.sub a h), fun a h n => (t.fresh a h (s.there a n)).elim (fun z => s.fresh a z n) fun z => .inr (s.own a z), fun a h => s.own a (t.own a h), fun a h => t.there a (s.there a h)⟩

def RVOk (K : PySem.W.Frag) (Hs : Hp) (F : Addr → Prop) (ps : List PV) (σ : St) (H : Hp) (v : V) : RV → Prop
  | .v d => Den K F H v d
  | .b i d => ps[i]? = some (.own d) ∧ σ[i]? = some (some v)
  | .f d => ∃ a, v = .ref a ∧ Hs a = none ∧ ¬ F a ∧ Cont K F H a d

section
variable {K : PySem.W.Frag} {da : GE} {B : Base} {F F' F'' : Addr → Prop} {ps ps' ps'' : List PV} {σ : St} {H H' H'' : Hp} {v : V} {r : RV}
theorem Rel.ownF (R : Rel K da B F ps σ H) {a : Addr} (o : Own ps σ a) : ¬ F a := by
  obtain ⟨i, d, h1, h2⟩ := o
  obtain ⟨b, e, hb, _⟩ := R.slot i _ h1
  rw [h2] at e
  cases e
  exact hb
theorem Rel.ownT (R : Rel K da B F ps σ H) {a : Addr} (o : Own ps σ a) : H a ≠ none := by
  obtain ⟨i, d, h1, h2⟩ := o
  obtain ⟨b, e, hb, c⟩ := R.slot i _ h1
  rw [h2] at e
  cases e
  exact c.there
theorem Rel.ownDa (R : Rel K da B F ps σ H) {a : Addr} (o : Own ps σ a) : Fix da a := R.daOld a (R.ownNew a o)
theorem Rel.fDa (R : Rel K da B F ps σ H) {a : Addr} (o : F a) : Fix da a := R.draw.fixF o
theorem Rel.H0T (R : Rel K da B F ps σ H) {a : Addr} (h : B.H0 a ≠ none) : H a ≠ none := fun z => by
  cases q : B.H0 a with
  | none => exact h q
  | some o =>
    rw [R.keep a o q (R.draw.fix z)] at z
    cases z
theorem Stp.refl : Stp da F ps σ H F ps H := ⟨fun _ _ h _ _ => h, fun _ h => h, fun _ h _ => .inl h, fun _ h => h, fun _ h => h⟩
theorem Stp.trans (s : Stp da F ps σ H F' ps' H') (t : Stp da F' ps' σ H' F'' ps'' H'') : Stp da F ps σ H F'' ps'' H'' := StpO.trans s t
/-- what stands in F is as it was -/
theorem Stp.atF (s : Stp da F ps σ H F' ps' H') (R : Rel K da B F ps σ H) {a : Addr} (h : F a) : H' a = H a := by
  cases q : H a with
  | none => exact absurd q (R.dom a h)
  | some o => exact s.keep a o q (fun z => R.ownF z h) (R.fDa h)
theorem Stp.den (s : Stp da F ps σ H F' ps' H') (R : Rel K da B F ps σ H) {v : V} {d : D} (h : Den K F H v d) : Den K F' H' v d := h.mono s.sub fun _ z => s.atF R z
theorem Stp.dens (s : Stp da F ps σ H F' ps' H') (R : Rel K da B F ps σ H) {v : List V} {d : List D} (h : Dens K F H v d) : Dens K F' H' v d := h.mono s.sub fun _ z => s.atF R z
/-- a value stays good, if what it borrows is still there -/
def live : RV → List PV → Prop
  | .b i d, ps => ps[i]? = some (.own d)
  | _, _ => True
theorem RVOk.step {Hs : Hp} (h : RVOk K Hs F ps σ H v r) (R : Rel K da B F ps σ H) (hs : ∀ a, Own ps σ a → Hs a ≠ none) (hd : ∀ a, Hs a = none → Fix da a) (s : Stp da F ps σ H F' ps' H') (l : live r ps') : RVOk K Hs F' ps' σ H' v r := by
  cases r with
  | v d => exact s.den R h
  | b i d => exact ⟨l, h.2⟩
  | f d =>
    obtain ⟨a, rfl, n, nF, c⟩ := h
    have no : ¬ Own ps σ a := fun z => hs a z n
    have nd : Fix da a := hd a n
    refine ⟨a, rfl, n, fun z => (s.fresh a z c.there).elim nF no, c.mono s.sub (fun _ z => s.atF R z) ?_⟩
    cases q : H a with
    | none => exact absurd q c.there
    | some o => exact s.keep a o q no nd
theorem RVOk.db {Hs : Hp} (h : RVOk K Hs F ps σ H v r) (R : Rel K da B F ps σ H) : DB K F H v r.d := by
  cases r with
  | v d => exact Den.db h
  | b i d =>
    obtain ⟨a, e, nF, c⟩ := R.slot i _ h.1
    rw [h.2] at e
    cases e
    exact c.db
  | f d =>
    obtain ⟨a, rfl, n, nF, c⟩ := h
    exact c.db
theorem Rel.hs (R : Rel K da B F ps σ H) : (∀ a, Own ps σ a → H a ≠ none) ∧ ∀ a, H a = none → Fix da a := ⟨fun _ h => R.ownT h, fun _ h => R.draw.fix h⟩
end
end DL

set_option maxHeartbeats 4000000
/-! DL2: what an expression, a test, an argument list, a statement does to pure data; the rules of names, operators, calls, statements. -/
namespace DL
open PySem PySem.Spec PyProof.Rows L2

abbrev PEr := PErr → Prop
abbrev PTE := List PV → (RV → List PV → Prop) → PEr → Prop
abbrev PTT := List PV → (Bool → List PV → Prop) → PEr → Prop
abbrev PTA := List PV → (List D → List PV → Prop) → PEr → Prop
structure PEnds where
  nx : List PV → Prop
  rt : D → Prop
  bk : List PV → Prop := fun _ => False
  ct : List PV → Prop := fun _ => False
  er : PEr := fun _ => False
abbrev PTS := PEnds → List PV → Prop

def ErOk (K : PySem.W.Frag) (W : WX) (da : GE) (B : Base) (σ : St) (er : PEr) : Prop :=
  ∀ (e : PErr) (F' : Addr → Prop) (H' : Hp) (ps' : List PV) (dd : Option Addr), Rel K da B F' ps' σ H' → er e → ErrAt F' H' e dd → W (.ref e.C) dd σ H'
def SimE (K : PySem.W.Frag) (W : WX) (da : GE) (p : PTE) (t : TE) : Prop :=
  ∀ (B : Base) (F : Addr → Prop) (ps : List PV) (σ : St) (H : Hp) (Q : VK) (PQ : RV → List PV → Prop) (er : PEr), Rel K da B F ps σ H → p ps PQ er →
    (∀ F' H' ps' v r, Rel K da B F' ps' σ H' → Stp da F ps σ H F' ps' H' → RVOk K H F' ps' σ H' v r → PQ r ps' → Q v H') → ErOk K W da B σ er → t σ H Q
def SimT (K : PySem.W.Frag) (W : WX) (da : GE) (p : PTT) (t : TT) : Prop :=
  ∀ (B : Base) (F : Addr → Prop) (ps : List PV) (σ : St) (H : Hp) (Q : Bool → Hp → Prop) (PQ : Bool → List PV → Prop) (er : PEr), Rel K da B F ps σ H → p ps PQ er →
    (∀ F' H' ps' b, Rel K da B F' ps' σ H' → Stp da F ps σ H F' ps' H' → PQ b ps' → Q b H') → ErOk K W da B σ er → t σ H Q
def SimA (K : PySem.W.Frag) (W : WX) (da : GE) (p : PTA) (t : TA) : Prop :=
  ∀ (B : Base) (F : Addr → Prop) (ps : List PV) (σ : St) (H : Hp) (Q : List V → Hp → Prop) (PQ : List D → List PV → Prop) (er : PEr), Rel K da B F ps σ H → p ps PQ er →
    (∀ F' H' ps' vs ds, Rel K da B F' ps' σ H' → Stp da F ps σ H F' ps' H' → Dens K F' H' vs ds → PQ ds ps' → Q vs H') → ErOk K W da B σ er → t σ H Q
structure EOk (K : PySem.W.Frag) (W : WX) (da : GE) (B : Base) (PD : PEnds) (D : Ends) : Prop where
  nx : ∀ F' ps' σ' H', Rel K da B F' ps' σ' H' → PD.nx ps' → D.nx σ' H'
  rt : ∀ F' ps' σ' H' v d, Rel K da B F' ps' σ' H' → Den K F' H' v d → PD.rt d → D.rt v H'
  bk : ∀ F' ps' σ' H', Rel K da B F' ps' σ' H' → PD.bk ps' → D.bk σ' H'
  ct : ∀ F' ps' σ' H', Rel K da B F' ps' σ' H' → PD.ct ps' → D.ct σ' H'
  er : ∀ σ', ErOk K W da B σ' PD.er
def SimS (K : PySem.W.Frag) (W : WX) (da : GE) (p : PTS) (t : TS) : Prop :=
  ∀ (B : Base) (F : Addr → Prop) (ps : List PV) (σ : St) (H : Hp) (D : Ends) (PD : PEnds), Rel K da B F ps σ H → p PD ps → EOk K W da B PD D → t D σ H

def DE (X : Cx) (W : WX) (da : GE) (e : Expr) (p : PTE) : Prop := ∃ t, PE X e t ∧ SimE X.K W da p t
def DT (X : Cx) (W : WX) (da : GE) (e : Expr) (p : PTT) : Prop := ∃ t, PT X e t ∧ SimT X.K W da p t
def DW (X : Cx) (W : WX) (da : GE) (e : Expr) (p : PTT) : Prop := ∃ t, PW X e t ∧ SimT X.K W da p t
def DA (X : Cx) (W : WX) (da : GE) (e : List Expr) (p : PTA) : Prop := ∃ t, PA X e t ∧ SimA X.K W da p t
def DK (X : Cx) (W : WX) (da : GE) (e : List Keyword) (p : PTA) : Prop := ∃ t, PK X e t ∧ SimA X.K W da p t
def DS (X : Cx) (W : WX) (da : GE) (e : Stmt) (p : PTS) : Prop := ∃ t, PS X e t ∧ SimS X.K W da p t
def DSs (X : Cx) (W : WX) (da : GE) (e : List Stmt) (p : PTS) : Prop := ∃ t, PSs X e t ∧ SimS X.K W da p t

/-! ### steps of the relation -/
/-- the heap grew -/
structure Ext (F : Addr → Prop) (H : Hp) (F' : Addr → Prop) (H' : Hp) : Prop where
  keep : ∀ a o, H a = some o → H' a = some o
  sub : ∀ a, F a → F' a
  fresh : ∀ a, F' a → H a ≠ none → F a
  dom : ∀ a, F' a → H' a ≠ none
def ROk (K : PySem.W.Frag) (H : Hp) (F' : Addr → Prop) (H' : Hp) (v : V) : RV → Prop
  | .v d => Den K F' H' v d
  | .b _ _ => False
  | .f d => ∃ a, v = .ref a ∧ H a = none ∧ ¬ F' a ∧ Cont K F' H' a d

section
variable {K : PySem.W.Frag} {da : GE} {B : Base} {F F' F'' F1 : Addr → Prop} {ps ps' ps'' ps1 : List PV} {σ : St} {H H' H'' Hs : Hp} {v : V} {r : RV}
theorem some_ne {α : Type} {x : Option α} (h : x ≠ none) : ∃ a, x = some a := by
  cases x with
  | none => exact absurd rfl h
  | some a => exact ⟨a, rfl⟩
theorem Ext.eqF (E : Ext F H F' H') (dom : ∀ a, F a → H a ≠ none) {a : Addr} (h : F a) : H' a = H a := by
  obtain ⟨o, e⟩ := some_ne (dom a h)
  rw [e]; exact E.keep a o e
theorem Ext.there (E : Ext F H F' H') {a : Addr} (h : H a ≠ none) : H' a ≠ none := by
  obtain ⟨o, e⟩ := some_ne h
  rw [E.keep a o e]; simp
theorem Ext.refl (dom : ∀ a, F a → H a ≠ none) : Ext F H F H := ⟨fun _ _ h => h, fun _ h => h, fun _ h _ => h, dom⟩
theorem Ext.trans (E : Ext F H F' H') (E' : Ext F' H' F'' H'') : Ext F H F'' H'' :=
  ⟨fun a o h => E'.keep a o (E.keep a o h), fun a h => E'.sub a (E.sub a h), fun a h n => E.fresh a (E'.fresh a h (E.there n)) n, E'.dom⟩
theorem DrawOk.ext (d : DrawOk F H da) (E : Ext F H F' H') : DrawOk F' H' da := ⟨fun a e => by
  obtain ⟨nF, w, c, ca, cells, h1, h2, h3, h4⟩ := d.1 a e
  exact ⟨fun z => nF (E.fresh a z (by rw [h1]; simp)), w, c, ca, cells, E.keep _ _ h1, E.sub _ h2, E.keep _ _ h3, h4⟩, fun p hp => by
  obtain ⟨nF, ps, h1, h2, h3⟩ := d.2 p hp
  refine ⟨fun z => nF (E.fresh _ z (by rw [h1]; simp)), ps, E.keep _ _ h1, h2, fun pos cv hc => ?_⟩
  obtain ⟨c, e1, e2⟩ := h3 pos cv hc
  exact ⟨c, e1, E.keep _ _ e2⟩⟩
theorem Rel.ext (R : Rel K da B F ps σ H) (E : Ext F H F' H') : Rel K da B F' ps σ H' where
  len := R.len
  slot := fun i pv h => by
    have q := R.slot i pv h
    cases pv with
    | no => trivial
    | val d =>
      obtain ⟨v, e, z⟩ := q
      exact ⟨v, e, z.mono E.sub fun _ z => E.eqF R.dom z⟩
    | own d =>
      obtain ⟨a, e, nF, c⟩ := q
      refine ⟨a, e, fun z => nF (E.fresh a z c.there), c.mono E.sub (fun _ z => E.eqF R.dom z) ?_⟩
      obtain ⟨o, e⟩ := some_ne c.there
      rw [e]; exact E.keep a o e
  dist := R.dist
  draw := R.draw.ext E
  keep := fun a o h n => E.keep a o (R.keep a o h n)
  sub := fun a h => E.sub a (R.sub a h)
  prot := fun a h => (E.eqF R.dom (R.sub a h)).trans (R.prot a h)
  fresh := fun a h n => R.fresh a (E.fresh a h (R.H0T n)) n
  ownNew := R.ownNew
  dom := E.dom
  daOld := R.daOld
theorem Ext.stp (E : Ext F H F' H') : Stp da F ps σ H F' ps H' := ⟨fun a o h _ _ => E.keep a o h, E.sub, fun a h n => .inl (E.fresh a h n), fun _ h => h, fun _ h => E.there h⟩
/-- the value of an operation, behind the steps that led there -/
theorem ROk.rv (h : ROk K H F' H' v r) (hs : ∀ a, Hs a ≠ none → H a ≠ none) : RVOk K Hs F' ps σ H' v r := by
  cases r with
  | v d => exact h
  | b i d => exact h.elim
  | f d =>
    obtain ⟨a, e, n, nF, c⟩ := h
    refine ⟨a, e, ?_, nF, c⟩
    cases q : Hs a with
    | none => rfl
    | some o => exact absurd n (hs a (by rw [q]; simp))

/-! alloc -/
def addF (F : Addr → Prop) (a : Addr) : Addr → Prop := fun b => F b ∨ b = a
theorem upd_keep {H : Hp} {p a : Addr} {o u : HO} (hp : H p = none) (h : H a = some o) : upd H p u a = some o := by
  rw [upd_ne (ne_of_none h hp)]; exact h
theorem ext_new {p : Addr} {u : HO} (dom : ∀ a, F a → H a ≠ none) (hp : H p = none) : Ext F H F (upd H p u) :=
  ⟨fun _ _ h => upd_keep hp h, fun _ h => h, fun _ h _ => h, fun a h => by
    obtain ⟨o, e⟩ := some_ne (dom a h)
    rw [upd_keep hp e]; simp⟩
theorem ext_newF {p : Addr} {u : HO} (dom : ∀ a, F a → H a ≠ none) (hp : H p = none) : Ext F H (addF F p) (upd H p u) :=
  ⟨fun _ _ h => upd_keep hp h, fun _ h => .inl h, fun a h n => h.elim id fun z => by subst z; exact absurd hp n, fun a h => by
    rcases h with h | h
    · obtain ⟨o, e⟩ := some_ne (dom a h)
      rw [upd_keep hp e]; simp
    · subst h; rw [upd_same]; simp⟩
theorem notF {p : Addr} (dom : ∀ a, F a → H a ≠ none) (hp : H p = none) : ¬ F p := fun z => dom p z hp
/-- a new list -/
theorem new_lst {p : Addr} {xs : List V} {ds : List D} (dom : ∀ a, F a → H a ≠ none) (hp : H p = none) (h : Dens K F H xs ds) : ROk K H F (upd H p (.lst xs)) (.ref p) (.f (.lst ds)) :=
  ⟨p, rfl, hp, notF dom hp, xs, upd_same, h.mono (fun _ z => z) fun a z => (ext_new dom hp).eqF dom z⟩
theorem new_tup {p : Addr} {xs : List V} {ds : List D} (dom : ∀ a, F a → H a ≠ none) (hp : H p = none) (h : Dens K F H xs ds) : ROk K H (addF F p) (upd H p (.tup xs)) (.ref p) (.v (.tup ds)) :=
  .tup (.inl ⟨.inr rfl, upd_same⟩) (h.mono (fun _ z => .inl z) fun a z => (ext_newF dom hp).eqF dom z)

/-! freezing -/
def frz (r : RV) (ps : List PV) (k : D → List PV → Prop) : Prop :=
  match r with
  | .v d => k d ps
  | .b i d => ps[i]? = some (.own d) ∧ k d (ps.set i (.val d))
  | .f d => k d ps
theorem set_get {α : Type} {l : List α} {i j : Nat} {x y : α} (h : (l.set i x)[j]? = some y) : (j = i ∧ y = x ∧ i < l.length) ∨ (j ≠ i ∧ l[j]? = some y) := by
  rw [List.getElem?_set] at h
  split at h
  · rename_i e
    split at h
    · rename_i hl
      exact .inl ⟨e.symm, (Option.some.inj h).symm, hl⟩
    · cases h
  · rename_i e
    exact .inr ⟨fun z => e z.symm, h⟩
theorem Rel.freeze (R : Rel K da B F ps σ H) (a : Addr) (hl : ps'.length = ps.length) (ha : H a ≠ none) (h0 : B.H0 a = none) (hda : Fix da a)
    (hs : ∀ (i : Nat) (pv : PV), ps'[i]? = some pv → (ps[i]? = some pv ∧ ∀ d, pv = .own d → σ[i]? ≠ some (some (.ref a))) ∨ ∃ d v, pv = .val d ∧ σ[i]? = some (some v) ∧ Den K (addF F a) H v d) : Rel K da B (addF F a) ps' σ H := by
  have own : ∀ (i : Nat) (d : D), ps'[i]? = some (.own d) → ps[i]? = some (.own d) ∧ σ[i]? ≠ some (some (.ref a)) := fun i d h => by
    rcases hs i _ h with ⟨h1, h2⟩ | ⟨d', v, e, _⟩
    · exact ⟨h1, h2 d rfl⟩
    · cases e
  refine ⟨hl.trans R.len, fun i pv h => ?_, fun i j di dj b h1 h2 => R.dist i j di dj b (own i di h1).1 (own j dj h2).1, ⟨fun b e => ?_, fun p hp => ?_⟩, R.keep, fun b h => .inl (R.sub b h), R.prot, fun b h n => ?_, fun b ⟨i, d, h1, h2⟩ => R.ownNew b ⟨i, d, (own i d h1).1, h2⟩, fun b h => ?_, R.daOld⟩
  · rcases hs i pv h with ⟨h1, h2⟩ | ⟨d', v, e, e2, q⟩
    · have q := R.slot i pv h1
      cases pv with
      | no => trivial
      | val d => obtain ⟨v, e, z⟩ := q; exact ⟨v, e, z.mono (fun _ z => .inl z) fun _ _ => rfl⟩
      | own d =>
        obtain ⟨b, e, nF, c⟩ := q
        refine ⟨b, e, fun z => z.elim nF fun z => ?_, c.mono (fun _ z => .inl z) (fun _ _ => rfl) rfl⟩
        subst z
        exact h2 d rfl e
    · subst e
      exact ⟨v, e2, q⟩
  · obtain ⟨nF, w, c, ca, cells, h1, h2, h3, h4⟩ := R.draw.1 b e
    exact ⟨fun z => z.elim nF fun z => hda.1 (by rw [← z, e]), w, c, ca, cells, h1, .inl h2, h3, h4⟩
  · obtain ⟨nF, h⟩ := R.draw.2 p hp
    exact ⟨fun z => z.elim nF fun z => hda.2 p hp z, h⟩
  · rcases h with h | h
    · exact R.fresh b h n
    · subst h; exact absurd h0 n
  · rcases h with h | h
    · exact R.dom b h
    · subst h; exact ha
theorem frz_sim {k : D → List PV → Prop} (R1 : Rel K da B F1 ps1 σ Hs) (S : Stp da F1 ps1 σ Hs F ps H) (R : Rel K da B F ps σ H) (h : RVOk K Hs F ps σ H v r) (hk : frz r ps k) :
    ∃ F' ps', Rel K da B F' ps' σ H ∧ Stp da F1 ps1 σ Hs F' ps' H ∧ Den K F' H v r.d ∧ k r.d ps' := by
  cases r with
  | v d => exact ⟨F, ps, R, S, h, hk⟩
  | b i d =>
    obtain ⟨h1, hk⟩ := hk
    obtain ⟨a, e, nF, c⟩ := R.slot i _ h1
    rw [h.2] at e
    cases e
    have ow : Own ps σ a := ⟨i, d, h1, h.2⟩
    have den : Den K (addF F a) H (.ref a) d := c.den (fun _ z => .inl z) (.inr rfl)
    have R' : Rel K da B (addF F a) (ps.set i (.val d)) σ H := R.freeze a (by simp) c.there (R.ownNew a ow) (R.ownDa ow) fun j pv hj => by
      rcases set_get hj with ⟨e1, e2, _⟩ | ⟨ne, hj⟩
      · subst e1 e2
        exact .inr ⟨d, _, rfl, h.2, den⟩
      · refine .inl ⟨hj, fun d' e z => ?_⟩
        subst e
        exact ne (R.dist j i d' d a hj h1 z h.2)
    refine ⟨_, _, R', ⟨S.keep, fun b z => .inl (S.sub b z), fun b z n => ?_, fun b ⟨j, d', h1', h2'⟩ => ?_, S.there⟩, den, hk⟩
    · rcases z with z | z
      · exact S.fresh b z n
      · subst z; exact .inr (S.own _ ow)
    · rcases set_get h1' with ⟨_, e2, _⟩ | ⟨_, hj⟩
      · cases e2
      · exact S.own b ⟨j, d', hj, h2'⟩
  | f d =>
    obtain ⟨a, rfl, n, nF, c⟩ := h
    have den : Den K (addF F a) H (.ref a) d := c.den (fun _ z => .inl z) (.inr rfl)
    have h0 : B.H0 a = none := by
      cases q : B.H0 a with
      | none => rfl
      | some o => exact absurd n (R1.H0T (by rw [q]; simp))
    have nd : Fix da a := R1.draw.fix n
    have R' : Rel K da B (addF F a) ps σ H := R.freeze a rfl c.there h0 nd fun j pv hj => .inl ⟨hj, fun d' e z => by
      subst e
      exact R1.ownT (S.own a ⟨j, d', hj, z⟩) n⟩
    exact ⟨_, _, R', ⟨S.keep, fun b z => .inl (S.sub b z), fun b z m => z.elim (fun z => S.fresh b z m) fun z => by subst z; exact absurd n m, S.own, S.there⟩, den, hk⟩

/-! storing -/
theorem Rel.set (R : Rel K da B F ps σ H) (i : Nat) (pv : PV) (w : Option V) (hs : SlotOk K F H (some w) pv)
    (ho : ∀ d a, pv = .own d → w = some (.ref a) → B.H0 a = none ∧ ∀ (j : Nat) (dj : D), ps[j]? = some (.own dj) → σ[j]? ≠ some (some (.ref a))) : Rel K da B F (ps.set i pv) (σ.set i w) H := by
  have look : ∀ (j : Nat) (q : PV), (ps.set i pv)[j]? = some q → (j = i ∧ q = pv ∧ (σ.set i w)[j]? = some w) ∨ (j ≠ i ∧ ps[j]? = some q ∧ (σ.set i w)[j]? = σ[j]?) := fun j q h => by
    rcases set_get h with ⟨e1, e2, hl⟩ | ⟨ne, hj⟩
    · subst e1
      exact .inl ⟨rfl, e2, List.getElem?_set_self (by rw [← R.len]; exact hl)⟩
    · exact .inr ⟨ne, hj, List.getElem?_set_ne (Ne.symm ne)⟩
  have own : ∀ a, Own (ps.set i pv) (σ.set i w) a → Own ps σ a ∨ (∃ d, pv = .own d) ∧ w = some (.ref a) := fun a ⟨j, d, h1, h2⟩ => by
    rcases look j _ h1 with ⟨e1, e2, e3⟩ | ⟨ne, hj, e3⟩
    · rw [e3] at h2
      exact .inr ⟨⟨d, e2.symm⟩, Option.some.inj h2⟩
    · rw [e3] at h2
      exact .inl ⟨j, d, hj, h2⟩
  refine ⟨by simp [R.len], fun j q h => ?_, fun j k dj dk a h1 h2 h3 h4 => ?_, R.draw, R.keep, R.sub, R.prot, R.fresh, fun a h => ?_, R.dom, R.daOld⟩
  · rcases look j q h with ⟨e1, e2, e3⟩ | ⟨ne, hj, e3⟩
    · rw [e3, e2]; exact hs
    · rw [e3]; exact R.slot j q hj
  · rcases look j _ h1 with ⟨e1, e2, e3⟩ | ⟨ne, hj, e3⟩
    · rcases look k _ h2 with ⟨e1', e2', e3'⟩ | ⟨ne', hj', e3'⟩
      · rw [e1, e1']
      · rw [e3] at h3
        rw [e3'] at h4
        exact absurd h4 ((ho _ a e2.symm (Option.some.inj h3)).2 k dk hj')
    · rcases look k _ h2 with ⟨e1', e2', e3'⟩ | ⟨ne', hj', e3'⟩
      · rw [e3] at h3
        rw [e3'] at h4
        exact absurd h3 ((ho _ a e2'.symm (Option.some.inj h4)).2 j dj hj)
      · rw [e3] at h3
        rw [e3'] at h4
        exact R.dist j k dj dk a hj hj' h3 h4
  · rcases own a h with z | ⟨⟨d, z1⟩, z2⟩
    · exact R.ownNew a z
    · exact (ho d a z1 z2).1
theorem Rel.setVal (R : Rel K da B F ps σ H) (i : Nat) {v : V} {d : D} (h : Den K F H v d) : Rel K da B F (ps.set i (.val d)) (σ.set i (some v)) H :=
  R.set i _ _ ⟨v, rfl, h⟩ fun _ _ e => by cases e
theorem Rel.setNo (R : Rel K da B F ps σ H) (i : Nat) (w : Option V) : Rel K da B F (ps.set i .no) (σ.set i w) H :=
  R.set i _ _ trivial fun _ _ e => by cases e
def asg (i : Nat) (r : RV) (ps : List PV) (k : List PV → Prop) : Prop :=
  match r with
  | .v d => k (ps.set i (.val d))
  | .b j d => ps[j]? = some (.own d) ∧ k ((ps.set j (.val d)).set i (.val d))
  | .f d => k (ps.set i (.own d))
theorem asg_sim {k : List PV → Prop} {i : Nat} (R1 : Rel K da B F1 ps1 σ Hs) (S : Stp da F1 ps1 σ Hs F ps H) (R : Rel K da B F ps σ H) (h : RVOk K Hs F ps σ H v r) (hk : asg i r ps k) :
    ∃ F' ps', Rel K da B F' ps' (σ.set i (some v)) H ∧ k ps' := by
  cases r with
  | v d => exact ⟨F, _, R.setVal i h, hk⟩
  | b j d =>
    obtain ⟨F', ps', R', S', den, q⟩ := frz_sim (k := fun d ps => k (ps.set i (.val d))) R1 S R h hk
    exact ⟨F', _, R'.setVal i den, q⟩
  | f d =>
    obtain ⟨a, rfl, n, nF, c⟩ := h
    refine ⟨F, _, R.set i (.own d) _ ⟨a, rfl, nF, c⟩ fun d' b e1 e2 => ?_, hk⟩
    cases e2
    refine ⟨?_, fun j dj hj z => R1.ownT (S.own a ⟨j, dj, hj, z⟩) n⟩
    cases q : B.H0 a with
    | none => rfl
    | some o => exact absurd n (R1.H0T (by rw [q]; simp))
end

/-! ### expressions -/
section
variable {K : PySem.W.Frag} {W : WX} {da : GE}
def pVar (i : Nat) : PTE := fun ps Q _ => match ps[i]? with
  | some (.val d) => Q (.v d) ps
  | some (.own d) => Q (.b i d) ps
  | _ => False
theorem sim_var (i : Nat) : SimE K W da (pVar i) (tVar i) := by
  intro B F ps σ H Q PQ er R hp post _
  unfold pVar at hp
  split at hp
  · rename_i d e
    obtain ⟨v, e2, den⟩ := R.slot i _ e
    exact ⟨v, e2, post F H ps v (.v d) R .refl den hp⟩
  · rename_i d e
    obtain ⟨a, e2, nF, c⟩ := R.slot i _ e
    exact ⟨.ref a, e2, post F H ps _ (.b i d) R .refl ⟨e, e2⟩ hp⟩
  · exact hp.elim
def pC (d : D) : PTE := fun ps Q _ => Q (.v d) ps
theorem sim_c {v : V} {d : D} (h : ∀ F H, Den K F H v d) : SimE K W da (pC d) (tC v) := fun B F ps σ H Q PQ er R hp post _ => post F H ps v (.v d) R .refl (h F H) hp

/-- an operation of two values -/
abbrev Op2 := D → D → (RV → Prop) → Prop
abbrev Op1 := D → (RV → Prop) → Prop
def SimOp (K : PySem.W.Frag) (r : R2) (op : Op2) : Prop :=
  ∀ (F : Addr → Prop) (H : Hp) (x y : V) (d e : D) (Q : VK) (k : RV → Prop), (∀ a, F a → H a ≠ none) → DB K F H x d → DB K F H y e → op d e k → (∀ F' H' v r', Ext F H F' H' → ROk K H F' H' v r' → k r' → Q v H') → r x y H Q
def SimU (K : PySem.W.Frag) (r : V → Hp → VK → Prop) (op : Op1) : Prop :=
  ∀ (F : Addr → Prop) (H : Hp) (x : V) (d : D) (Q : VK) (k : RV → Prop), (∀ a, F a → H a ≠ none) → DB K F H x d → op d k → (∀ F' H' v r', Ext F H F' H' → ROk K H F' H' v r' → k r' → Q v H') → r x H Q
def pBin (op : Op2) (pa pb : PTE) : PTE := fun ps Q er => pa ps (fun x ps1 => pb ps1 (fun y ps2 => live x ps2 ∧ op x.d y.d fun r => Q r ps2) er) er
def pUn (op : Op1) (pa : PTE) : PTE := fun ps Q er => pa ps (fun x ps1 => op x.d fun r => Q r ps1) er
theorem sim_bin {pa pb : PTE} {ta tb : TE} {r : R2} {op : Op2} (ha : SimE K W da pa ta) (hb : SimE K W da pb tb) (so : SimOp K r op) : SimE K W da (pBin op pa pb) (tOp r ta tb) := by
  intro B F ps σ H Q PQ er R hp post he
  refine ha B F ps σ H _ _ er R hp (fun F1 H1 ps1 v x R1 S1 ok1 hp1 => ?_) he
  refine hb B F1 ps1 σ H1 _ _ er R1 hp1 (fun F2 H2 ps2 u y R2 S2 ok2 hp2 => ?_) he
  have ok1' := ok1.step R1 (fun a h => R.ownT (S1.own a h)) (fun a h => R.draw.fix h) S2 hp2.1
  have h12 := S1.trans S2
  refine so F2 H2 v u _ _ _ _ R2.dom (ok1'.db R2) (ok2.db R2) hp2.2 fun F3 H3 w r' E3 rok q => ?_
  exact post F3 H3 ps2 w r' (R2.ext E3) (h12.trans E3.stp) (rok.rv fun a h => h12.there a h) q
theorem sim_un {pa : PTE} {ta : TE} {r : V → Hp → VK → Prop} {op : Op1} (ha : SimE K W da pa ta) (so : SimU K r op) : SimE K W da (pUn op pa) (fun σ H Q => ta σ H fun x H1 => r x H1 Q) := by
  intro B F ps σ H Q PQ er R hp post he
  refine ha B F ps σ H _ _ er R hp (fun F1 H1 ps1 v x R1 S1 ok1 hp1 => ?_) he
  refine so F1 H1 v _ _ _ R1.dom (ok1.db R1) hp1 fun F3 H3 w r' E3 rok q => ?_
  exact post F3 H3 ps1 w r' (R1.ext E3) (S1.trans E3.stp) (rok.rv fun a h => S1.there a h) q
/-- a value that nothing but its data tells -/
theorem ret_v {F : Addr → Prop} {H : Hp} {Q : VK} {k : RV → Prop} {v : V} {d : D} (dom : ∀ a, F a → H a ≠ none) (hd : Den K F H v d) (post : ∀ F' H' v r', Ext F H F' H' → ROk K H F' H' v r' → k r' → Q v H') (h : k (.v d)) : Q v H := post F H v (.v d) (.refl dom) hd h

/-! ### arguments -/
def pNil : PTA := fun ps Q _ => Q [] ps
def pCons (pe : PTE) (pr : PTA) : PTA := fun ps Q er => pe ps (fun r ps1 => frz r ps1 fun d ps2 => pr ps2 (fun ds ps3 => Q (d :: ds) ps3) er) er
theorem sim_nil : SimA K W da pNil tNil := fun B F ps σ H Q PQ er R hp post _ => post F H ps [] [] R .refl .nil hp
theorem sim_cons {pe : PTE} {te : TE} {pr : PTA} {tr : TA} (ha : SimE K W da pe te) (hr : SimA K W da pr tr) : SimA K W da (pCons pe pr) (tCons te tr) := by
  intro B F ps σ H Q PQ er R hp post he
  refine ha B F ps σ H _ _ er R hp (fun F1 H1 ps1 v x R1 S1 ok1 hp1 => ?_) he
  obtain ⟨F2, ps2, R2, S2, den, hp2⟩ := frz_sim R S1 R1 ok1 hp1
  refine hr B F2 ps2 σ H1 _ _ er R2 hp2 (fun F3 H3 ps3 vs ds R3 S3 dens hp3 => ?_) he
  exact post F3 H3 ps3 _ _ R3 (S2.trans S3) (.cons (S3.den R2 den) dens) hp3
def pTup (pa : PTA) : PTE := fun ps Q er => pa ps (fun ds ps1 => ds.length ≤ sizeLine ∧ Q (.v (.tup ds)) ps1) er
def pLst (pa : PTA) : PTE := fun ps Q er => pa ps (fun ds ps1 => ds.length ≤ sizeLine ∧ Q (.f (.lst ds)) ps1) er
theorem sim_tup {pa : PTA} {ta : TA} (ha : SimA K W da pa ta) : SimE K W da (pTup pa) (tTup ta) := by
  intro B F ps σ H Q PQ er R hp post he
  refine ha B F ps σ H _ _ er R hp (fun F1 H1 ps1 vs ds R1 S1 dens hp1 => ?_) he
  refine ⟨by rw [dens.length]; exact hp1.1, fun p hp => ?_⟩
  have E := ext_newF (u := .tup vs) R1.dom hp
  exact post _ _ ps1 _ _ (R1.ext E) (S1.trans E.stp) ((new_tup R1.dom hp dens).rv fun a h => S1.there a h) hp1.2
theorem sim_lst {pa : PTA} {ta : TA} (ha : SimA K W da pa ta) : SimE K W da (pLst pa) (tLst ta) := by
  intro B F ps σ H Q PQ er R hp post he
  refine ha B F ps σ H _ _ er R hp (fun F1 H1 ps1 vs ds R1 S1 dens hp1 => ?_) he
  refine ⟨by rw [dens.length]; exact hp1.1, fun p hp => ?_⟩
  have E := ext_new (u := .lst vs) R1.dom hp
  exact post _ _ ps1 _ _ (R1.ext E) (S1.trans E.stp) ((new_lst R1.dom hp dens).rv fun a h => S1.there a h) hp1.2

/-! ### a def's promise, told of data -/
abbrev PSpec := GE → List D → (D → Prop) → PEr → Prop
structure Kept (K : PySem.W.Frag) (da : GE) (F : Addr → Prop) (H : Hp) (F' : Addr → Prop) (H' : Hp) : Prop where
  keep : ∀ a o, H a = some o → Fix da a → H' a = some o
  sub : ∀ a, F a → F' a
  fresh : ∀ a, F' a → H a ≠ none → F a
  dom : ∀ a, F' a → H' a ≠ none
  draw : DrawOk F' H' da
def spOf (K : PySem.W.Frag) (n : Nat) (p : PSpec) : Sp := fun vs H Q E =>
  ∃ (da : GE) (F : Addr → Prop) (ds : List D) (PQ : D → Prop) (er : PEr), Dens K F H vs ds ∧ ds.length = n ∧ (∀ a, F a → H a ≠ none) ∧ DrawOk F H da ∧ p da ds PQ er ∧
    (∀ F' H' v d, Kept K da F H F' H' → Den K F' H' v d → PQ d → Q v H') ∧ ∀ e F' H' dd, Kept K da F H F' H' → er e → ErrAt F' H' e dd → E (.ref e.C) dd H'
theorem Rel.kept {B : Base} {F : Addr → Prop} {ps : List PV} {σ : St} {H : Hp} (R : Rel K da B F ps σ H) (hb : ∀ a, B.F0 a → B.Fp a) : Kept K da B.F0 B.H0 F H := ⟨R.keep, fun a h => R.sub a (hb a h), R.fresh, R.dom, R.draw⟩
/-- behind a call -/
theorem Rel.after {B : Base} {F F' : Addr → Prop} {ps : List PV} {σ : St} {H H' : Hp} (R : Rel K da B F ps σ H) (k : Kept K da F H F' H') : Rel K da B F' ps σ H' ∧ Stp da F ps σ H F' ps H' := by
  have eqF : ∀ a, F a → H' a = H a := fun a h => by
    obtain ⟨o, e⟩ := some_ne (R.dom a h)
    rw [e]; exact k.keep a o e (R.fDa h)
  have there : ∀ a, H a ≠ none → H' a ≠ none := fun a h z => by
    obtain ⟨o, e⟩ := some_ne h
    rw [k.keep a o e (k.draw.fix z)] at z
    cases z
  refine ⟨⟨R.len, fun i pv h => ?_, R.dist, k.draw, fun a o h n => k.keep a o (R.keep a o h n) n, fun a h => k.sub a (R.sub a h), fun a h => (eqF a (R.sub a h)).trans (R.prot a h), fun a h n => R.fresh a (k.fresh a h (R.H0T n)) n, R.ownNew, k.dom, R.daOld⟩,
    ⟨fun a o h _ n => k.keep a o h n, k.sub, fun a h n => .inl (k.fresh a h n), fun _ h => h, there⟩⟩
  have q := R.slot i pv h
  cases pv with
  | no => trivial
  | val d => obtain ⟨v, e, z⟩ := q; exact ⟨v, e, z.mono k.sub eqF⟩
  | own d =>
    obtain ⟨a, e, nF, c⟩ := q
    have ow : Own ps σ a := ⟨i, d, h, e⟩
    refine ⟨a, e, fun z => nF (k.fresh a z c.there), c.mono k.sub eqF ?_⟩
    obtain ⟨o, e2⟩ := some_ne c.there
    rw [e2]; exact k.keep a o e2 (R.ownDa ow)
def pCall (da : GE) (sp : PSpec) (pa : PTA) : PTE := fun ps Q er => pa ps (fun ds ps1 => sp da ds (fun d => Q (.v d) ps1) er) er
theorem sim_call {n : Nat} {sp : PSpec} {pa : PTA} {ta : TA} (hn : ∀ da ds Q er, sp da ds Q er → ds.length = n) (ha : SimA K W da pa ta) : SimE K W da (pCall da sp pa) (tCallS (spOf K n sp) (WE W) ta) := by
  intro B F ps σ H Q PQ er R hp post he
  refine ha B F ps σ H _ _ er R hp (fun F1 H1 ps1 vs ds R1 S1 dens hp1 => ?_) he
  refine ⟨da, F1, ds, _, er, dens, hn _ _ _ _ hp1, R1.dom, R1.draw, hp1, fun F' H' v d k den q => ?_, fun e F' H' dd k h1 h2 => ?_⟩
  · obtain ⟨R2, S2⟩ := R1.after k
    exact post F' H' ps1 v (.v d) R2 (S1.trans S2) den q
  · exact he e F' H' ps1 dd (R1.after k).1 h1 h2

/-! ### tests -/
def truD : D → Option Bool
  | .non => some false
  | .bl b => some b
  | .int i => some (i != 0)
  | .lst l => some (!l.isEmpty)
  | .tup l => some (!l.isEmpty)
  | .dic k v => some (!v.isEmpty)
  | _ => none
def pTruth (pa : PTE) : PTT := fun ps Q er => pa ps (fun r ps1 => ∃ b, truD r.d = some b ∧ Q b ps1) er
theorem isEmpty_len {α β : Type} {l : List α} {m : List β} (h : l.length = m.length) : (!l.isEmpty) = !m.isEmpty := by
  cases l <;> cases m <;> simp at h ⊢
theorem tru_db {F : Addr → Prop} {H : Hp} {v : V} {d : D} {b : Bool} (h : DB K F H v d) (e : truD d = some b) : TruV K v H b := by
  cases d with
  | non => cases h; exact (Option.some.inj e).symm
  | bl c => cases h; exact (Option.some.inj e).symm
  | int i => cases h; exact (Option.some.inj e).symm
  | str x => cases e
  | ty n => cases e
  | ref a => cases e
  | exc a => cases e
  | scr a => cases e
  | lst l =>
    obtain ⟨a, xs, rfl, h1, h2⟩ := h
    exact .inl ⟨xs, .of h1, by rw [← Option.some.inj e]; exact (isEmpty_len h2.length).symm⟩
  | tup l =>
    obtain ⟨a, xs, rfl, h1, h2⟩ := Den.tupE h
    exact .inr (.inl ⟨xs, h1, by rw [← Option.some.inj e]; exact (isEmpty_len h2.length).symm⟩)
  | dic ks l =>
    obtain ⟨a, xs, rfl, h1, h3, h2⟩ := h
    refine .inr (.inr ⟨xs, h1, ?_⟩)
    rw [← Option.some.inj e]
    have := h2.length
    rw [List.length_map] at this
    exact (isEmpty_len this).symm
theorem sim_truth {pa : PTE} {ta : TE} (ha : SimE K W da pa ta) : SimT K W da (pTruth pa) (fun σ H Q => ta σ H fun x H' => ∃ k, TruV K x H' k ∧ Q k H') := by
  intro B F ps σ H Q PQ er R hp post he
  refine ha B F ps σ H _ _ er R hp (fun F1 H1 ps1 v x R1 S1 ok1 hp1 => ?_) he
  obtain ⟨b, e, q⟩ := hp1
  exact ⟨b, tru_db (ok1.db R1) e, post F1 H1 ps1 b R1 S1 q⟩
/-- an expression that gives True or False -/
def pTest (pa : PTE) : PTT := fun ps Q er => pa ps (fun r ps1 => ∃ b, r = .v (.bl b) ∧ Q b ps1) er
theorem sim_test {pa : PTE} {ta : TE} (ha : SimE K W da pa ta) : SimT K W da (pTest pa) (tTest ta) := by
  intro B F ps σ H Q PQ er R hp post he
  refine ha B F ps σ H _ _ er R hp (fun F1 H1 ps1 v x R1 S1 ok1 hp1 => ?_) he
  obtain ⟨b, rfl, q⟩ := hp1
  exact ⟨b, Den.blE ok1, post F1 H1 ps1 b R1 S1 q⟩
def pNot (p : PTT) : PTT := fun ps Q er => p ps (fun b ps1 => Q (!b) ps1) er
def pAnd (p q : PTT) : PTT := fun ps Q er => p ps (fun b ps1 => if b = true then q ps1 Q er else Q false ps1) er
def pOr (p q : PTT) : PTT := fun ps Q er => p ps (fun b ps1 => if b = true then Q true ps1 else q ps1 Q er) er
theorem sim_not {p : PTT} {t : TT} (h : SimT K W da p t) : SimT K W da (pNot p) (tNot t) := by
  intro B F ps σ H Q PQ er R hp post he
  exact h B F ps σ H _ _ er R hp (fun F1 H1 ps1 b R1 S1 hp1 => post F1 H1 ps1 _ R1 S1 hp1) he
theorem sim_and {p q : PTT} {t u : TT} (h : SimT K W da p t) (h2 : SimT K W da q u) : SimT K W da (pAnd p q) (tAnd t u) := by
  intro B F ps σ H Q PQ er R hp post he
  refine h B F ps σ H _ _ er R hp (fun F1 H1 ps1 b R1 S1 hp1 => ?_) he
  cases b with
  | true => exact h2 B F1 ps1 σ H1 _ _ er R1 hp1 (fun F2 H2 ps2 b R2 S2 hp2 => post F2 H2 ps2 b R2 (S1.trans S2) hp2) he
  | false => exact post F1 H1 ps1 _ R1 S1 hp1
theorem sim_or {p q : PTT} {t u : TT} (h : SimT K W da p t) (h2 : SimT K W da q u) : SimT K W da (pOr p q) (tOr t u) := by
  intro B F ps σ H Q PQ er R hp post he
  refine h B F ps σ H _ _ er R hp (fun F1 H1 ps1 b R1 S1 hp1 => ?_) he
  cases b with
  | true => exact post F1 H1 ps1 _ R1 S1 hp1
  | false => exact h2 B F1 ps1 σ H1 _ _ er R1 hp1 (fun F2 H2 ps2 b R2 S2 hp2 => post F2 H2 ps2 b R2 (S1.trans S2) hp2) he
/-- as values, the first ones True or False -/
def pAndV (pa pb : PTE) : PTE := fun ps Q er => pa ps (fun r ps1 => ∃ b, r = .v (.bl b) ∧ if b = true then pb ps1 Q er else Q (.v (.bl false)) ps1) er
def pOrV (pa pb : PTE) : PTE := fun ps Q er => pa ps (fun r ps1 => ∃ b, r = .v (.bl b) ∧ if b = true then Q (.v (.bl true)) ps1 else pb ps1 Q er) er
def pNotV (pa : PTE) : PTE := fun ps Q er => pa ps (fun r ps1 => ∃ b, r = .v (.bl b) ∧ Q (.v (.bl (!b))) ps1) er
theorem RVOk.back {Hs H : Hp} {F : Addr → Prop} {ps : List PV} {σ : St} {v : V} {r : RV} {Hs' : Hp} (h : RVOk K Hs F ps σ H v r) (t : ∀ a, Hs' a ≠ none → Hs a ≠ none) : RVOk K Hs' F ps σ H v r := by
  cases r with
  | v d => exact h
  | b i d => exact h
  | f d =>
    obtain ⟨a, e, n, nF, c⟩ := h
    refine ⟨a, e, ?_, nF, c⟩
    cases q : Hs' a with
    | none => rfl
    | some o => exact absurd n (t a (by rw [q]; simp))
theorem sim_andV {pa pb : PTE} {ta tb : TE} (ha : SimE K W da pa ta) (hb : SimE K W da pb tb) : SimE K W da (pAndV pa pb) (tAndV ta tb) := by
  intro B F ps σ H Q PQ er R hp post he
  refine ha B F ps σ H _ _ er R hp (fun F1 H1 ps1 v x R1 S1 ok1 hp1 => ?_) he
  obtain ⟨b, rfl, q⟩ := hp1
  refine ⟨b, Den.blE ok1, ?_⟩
  cases b with
  | true => exact hb B F1 ps1 σ H1 _ _ er R1 q (fun F2 H2 ps2 v r R2 S2 ok2 hp2 => post F2 H2 ps2 v r R2 (S1.trans S2) (ok2.back S1.there) hp2) he
  | false => exact post F1 H1 ps1 _ (.v (.bl false)) R1 S1 (Den.bl false) q
theorem sim_orV {pa pb : PTE} {ta tb : TE} (ha : SimE K W da pa ta) (hb : SimE K W da pb tb) : SimE K W da (pOrV pa pb) (tOrV ta tb) := by
  intro B F ps σ H Q PQ er R hp post he
  refine ha B F ps σ H _ _ er R hp (fun F1 H1 ps1 v x R1 S1 ok1 hp1 => ?_) he
  obtain ⟨b, rfl, q⟩ := hp1
  refine ⟨b, Den.blE ok1, ?_⟩
  cases b with
  | true => exact post F1 H1 ps1 _ (.v (.bl true)) R1 S1 (Den.bl true) q
  | false => exact hb B F1 ps1 σ H1 _ _ er R1 q (fun F2 H2 ps2 v r R2 S2 ok2 hp2 => post F2 H2 ps2 v r R2 (S1.trans S2) (ok2.back S1.there) hp2) he
theorem sim_notV {pa : PTE} {ta : TE} (ha : SimE K W da pa ta) : SimE K W da (pNotV pa) (tNotV ta) := by
  intro B F ps σ H Q PQ er R hp post he
  refine ha B F ps σ H _ _ er R hp (fun F1 H1 ps1 v x R1 S1 ok1 hp1 => ?_) he
  obtain ⟨b, rfl, q⟩ := hp1
  exact ⟨b, Den.blE ok1, post F1 H1 ps1 _ (.v (.bl (!b))) R1 S1 (Den.bl _) q⟩
def pIf (p : PTT) (pa pb : PTE) : PTE := fun ps Q er => p ps (fun b ps1 => if b = true then pa ps1 Q er else pb ps1 Q er) er
theorem sim_if {p : PTT} {t : TT} {pa pb : PTE} {ta tb : TE} (h : SimT K W da p t) (ha : SimE K W da pa ta) (hb : SimE K W da pb tb) : SimE K W da (pIf p pa pb) (tIf t ta tb) := by
  intro B F ps σ H Q PQ er R hp post he
  refine h B F ps σ H _ _ er R hp (fun F1 H1 ps1 b R1 S1 q => ?_) he
  cases b with
  | true => exact ha B F1 ps1 σ H1 _ _ er R1 q (fun F2 H2 ps2 v r R2 S2 ok2 hp2 => post F2 H2 ps2 v r R2 (S1.trans S2) (ok2.back S1.there) hp2) he
  | false => exact hb B F1 ps1 σ H1 _ _ er R1 q (fun F2 H2 ps2 v r R2 S2 ok2 hp2 => post F2 H2 ps2 v r R2 (S1.trans S2) (ok2.back S1.there) hp2) he

/-! ### statements -/
def pNext : PTS := fun PD ps => PD.nx ps
def pSeq (p q : PTS) : PTS := fun PD ps => p { PD with nx := q PD } ps
def pBreak : PTS := fun PD ps => PD.bk ps
def pCont : PTS := fun PD ps => PD.ct ps
def pDrop (pe : PTE) : PTS := fun PD ps => pe ps (fun _ ps1 => PD.nx ps1) PD.er
def pRet (pe : PTE) : PTS := fun PD ps => pe ps (fun r ps1 => frz r ps1 fun d _ => PD.rt d) PD.er
def pRetN : PTS := fun PD _ => PD.rt .non
def pIfS (c : PTT) (p q : PTS) : PTS := fun PD ps => c ps (fun b ps1 => if b = true then p PD ps1 else q PD ps1) PD.er
def pNever : PTS := fun _ _ => False
def pSet (i : Nat) (pe : PTE) : PTS := fun PD ps => pe ps (fun r ps1 => asg i r ps1 PD.nx) PD.er
def pRaise (C : Addr) : PTS := fun PD _ => PD.er ⟨C, none⟩
theorem simS_next : SimS K W da pNext tNext := fun B F ps σ H D PD R hp E => E.nx F ps σ H R hp
theorem simS_brk : SimS K W da pBreak tBreak := fun B F ps σ H D PD R hp E => E.bk F ps σ H R hp
theorem simS_ct : SimS K W da pCont tCont := fun B F ps σ H D PD R hp E => E.ct F ps σ H R hp
theorem simS_never : SimS K W da pNever tNever := fun B F ps σ H D PD R hp E => hp
theorem simS_seq {p q : PTS} {t u : TS} (h1 : SimS K W da p t) (h2 : SimS K W da q u) : SimS K W da (pSeq p q) (tSeq t u) := fun B F ps σ H D PD R hp E =>
  h1 B F ps σ H _ { PD with nx := q PD } R hp ⟨fun F' ps' σ' H' R' q' => h2 B F' ps' σ' H' D PD R' q' E, E.rt, E.bk, E.ct, E.er⟩
theorem simS_drop {pe : PTE} {te : TE} (h : SimE K W da pe te) : SimS K W da (pDrop pe) (tDrop te) := fun B F ps σ H D PD R hp E =>
  h B F ps σ H _ _ PD.er R hp (fun F1 H1 ps1 v r R1 S1 ok q => E.nx F1 ps1 σ H1 R1 q) (E.er σ)
theorem simS_ret {pe : PTE} {te : TE} (h : SimE K W da pe te) : SimS K W da (pRet pe) (tRet te) := fun B F ps σ H D PD R hp E =>
  h B F ps σ H _ _ PD.er R hp (fun F1 H1 ps1 v r R1 S1 ok q => by
    obtain ⟨F2, ps2, R2, S2, den, q⟩ := frz_sim R S1 R1 ok q
    exact E.rt F2 ps2 σ H1 v _ R2 den q) (E.er σ)
theorem simS_retN : SimS K W da pRetN tRetN := fun B F ps σ H D PD R hp E => E.rt F ps σ H .non .non R .non hp
theorem simS_if {c : PTT} {tc : TT} {p q : PTS} {t u : TS} (hc : SimT K W da c tc) (h1 : SimS K W da p t) (h2 : SimS K W da q u) : SimS K W da (pIfS c p q) (tIfS tc t u) := fun B F ps σ H D PD R hp E =>
  hc B F ps σ H _ _ PD.er R hp (fun F1 H1 ps1 b R1 S1 q => by
    cases b with
    | true => exact h1 B F1 ps1 σ H1 D PD R1 q E
    | false => exact h2 B F1 ps1 σ H1 D PD R1 q E) (E.er σ)
theorem simS_set {i : Nat} {pe : PTE} {te : TE} (h : SimE K W da pe te) : SimS K W da (pSet i pe) (tAsg te (gName i)) := fun B F ps σ H D PD R hp E =>
  h B F ps σ H _ _ PD.er R hp (fun F1 H1 ps1 v r R1 S1 ok q => by
    obtain ⟨F2, ps2, R2, q⟩ := asg_sim R S1 R1 ok q
    exact E.nx F2 ps2 _ H1 R2 q) (E.er σ)
theorem simS_raise {C : Addr} : SimS K W da (pRaise C) (fun _ σ H => W (.ref C) none σ H) := fun B F ps σ H D PD R hp E =>
  E.er σ ⟨C, none⟩ F H ps none R hp rfl
/-- a, b = x, y -/
def pPar (i j : Nat) (pa : PTA) : PTS := fun PD ps => pa ps (fun ds ps1 => ∃ a b, ds = [a, b] ∧ PD.nx ((ps1.set i (.val a)).set j (.val b))) PD.er
theorem Dens.two {F : Addr → Prop} {H : Hp} {vs : List V} {a b : D} (h : Dens K F H vs [a, b]) : ∃ v w, vs = [v, w] ∧ Den K F H v a ∧ Den K F H w b := by
  cases h with
  | cons h t =>
    cases t with
    | cons h2 t2 => cases t2; exact ⟨_, _, rfl, h, h2⟩
theorem Dens.three {F : Addr → Prop} {H : Hp} {vs : List V} {a b c : D} (h : Dens K F H vs [a, b, c]) : ∃ v w x, vs = [v, w, x] ∧ Den K F H v a ∧ Den K F H w b ∧ Den K F H x c := by
  cases h with
  | cons h t =>
    obtain ⟨v, w, rfl, h2, h3⟩ := t.two
    exact ⟨_, v, w, rfl, h, h2, h3⟩
theorem simS_par {i j : Nat} {pa : PTA} {ta : TA} (h : SimA K W da pa ta) : SimS K W da (pPar i j pa) (tPar i j ta) := fun B F ps σ H D PD R hp E =>
  h B F ps σ H _ _ PD.er R hp (fun F1 H1 ps1 vs ds R1 S1 dens q => by
    obtain ⟨a, b, rfl, q⟩ := q
    obtain ⟨v, w, rfl, d1, d2⟩ := dens.two
    exact ⟨v, w, rfl, E.nx F1 _ _ H1 ((R1.setVal i d1).setVal j d2) q⟩) (E.er σ)
def pPar3 (i j l : Nat) (pa : PTA) : PTS := fun PD ps => pa ps (fun ds ps1 => ∃ a b c, ds = [a, b, c] ∧ PD.nx (((ps1.set i (.val a)).set j (.val b)).set l (.val c))) PD.er
theorem simS_par3 {i j l : Nat} {pa : PTA} {ta : TA} (h : SimA K W da pa ta) : SimS K W da (pPar3 i j l pa) (tPar3 i j l ta) := fun B F ps σ H D PD R hp E =>
  h B F ps σ H _ _ PD.er R hp (fun F1 H1 ps1 vs ds R1 S1 dens q => by
    obtain ⟨a, b, c, rfl, q⟩ := q
    obtain ⟨v, w, x, rfl, d1, d2, d3⟩ := dens.three
    exact ⟨v, w, x, rfl, E.nx F1 _ _ H1 (((R1.setVal i d1).setVal j d2).setVal l d3) q⟩) (E.er σ)
/-- while: an invariant and a measure -/
def pWhile (c : PTT) (b : PTS) : PTS := fun PD ps => ∃ I : Nat → List PV → Prop, (∃ m, I m ps) ∧ ∀ m ps, I m ps →
  c ps (fun k ps1 => if k = true then b { PD with nx := fun ps2 => ∃ m', m' < m ∧ I m' ps2, ct := fun ps2 => ∃ m', m' < m ∧ I m' ps2, bk := PD.nx } ps1 else PD.nx ps1) PD.er
theorem simS_while {c : PTT} {tc : TT} {b : PTS} {tb : TS} (hc : SimT K W da c tc) (hb : SimS K W da b tb) : SimS K W da (pWhile c b) (tWhile tc tb) := by
  intro B F ps σ H D PD R hp E
  obtain ⟨I, ⟨m, i0⟩, step⟩ := hp
  refine ⟨fun m σ H => ∃ F ps, Rel K da B F ps σ H ∧ I m ps, ⟨m, F, ps, R, i0⟩, ?_⟩
  rintro m σ H ⟨F, ps, R, i⟩
  refine hc B F ps σ H _ _ PD.er R (step m ps i) (fun F1 H1 ps1 k R1 S1 q => ?_) (E.er σ)
  cases k with
  | true =>
    refine ⟨fun σ' H' => ∃ m', m' < m ∧ ∃ F ps, Rel K da B F ps σ' H' ∧ I m' ps, fun σ' H' ⟨m', h1, h2⟩ => ⟨m', h1, h2⟩, ?_⟩
    refine hb B F1 ps1 σ H1 _ _ R1 q ⟨fun F' ps' σ' H' R' q' => ?_, E.rt, E.nx, fun F' ps' σ' H' R' q' => ?_, E.er⟩
    · obtain ⟨m', h1, h2⟩ := q'
      exact ⟨m', h1, F', ps', R', h2⟩
    · obtain ⟨m', h1, h2⟩ := q'
      exact ⟨m', h1, F', ps', R', h2⟩
  | false => exact E.nx F1 ps1 σ H1 R1 q
end
end DL

set_option maxHeartbeats 4000000
/-! DL3: the operators, built-in calls, places, slices, methods over pure data. -/
namespace DL
open PySem PySem.Spec PyProof.Rows L2

section
variable {K : PySem.W.Frag}
theorem DB.intE {F : Addr → Prop} {H : Hp} {v : V} {i : Int} (h : DB K F H v (.int i)) : v = .int i := Den.intE h
theorem DB.strE {F : Addr → Prop} {H : Hp} {v : V} {i : Str} (h : DB K F H v (.str i)) : v = .str i := Den.strE h
theorem DB.blE {F : Addr → Prop} {H : Hp} {v : V} {i : Bool} (h : DB K F H v (.bl i)) : v = .bl i := Den.blE h
theorem DB.refE {F : Addr → Prop} {H : Hp} {v : V} {i : Addr} (h : DB K F H v (.ref i)) : v = .ref i := Den.refE h
theorem DB.tyE {F : Addr → Prop} {H : Hp} {v : V} {i : String} (h : DB K F H v (.ty i)) : v = .ty i := Den.tyE h
theorem DB.nonE {F : Addr → Prop} {H : Hp} {v : V} (h : DB K F H v .non) : v = .non := Den.nonE h
theorem DB.tupE {F : Addr → Prop} {H : Hp} {v : V} {ds : List D} (h : DB K F H v (.tup ds)) : ∃ a xs, v = .ref a ∧ SqT K H a xs ∧ Dens K F H xs ds := Den.tupE h

/-! ### two whole numbers -/
def oI (C : Int → Int → Prop) (g : Int → Int → D) : Op2 := fun d e k => match d, e with
  | .int i, .int j => C i j ∧ k (.v (g i j))
  | _, _ => False
def scalD : D → Prop
  | .non | .bl _ | .int _ | .str _ => True
  | _ => False
def vD : D → V
  | .non => .non
  | .bl b => .bl b
  | .int i => .int i
  | .str x => .str x
  | _ => .non
theorem scal_den {F : Addr → Prop} {H : Hp} {d : D} (h : scalD d) : Den K F H (vD d) d := by
  cases d <;> first | exact h.elim | constructor
theorem simO_I {C : Int → Int → Prop} {g : Int → Int → V} {g' : Int → Int → D} (hg : ∀ i j, vD (g' i j) = g i j ∧ scalD (g' i j)) : SimOp K (rI C g) (oI C g') := by
  intro F H x y d e Q k dom dx dy hop post
  cases d <;> cases e <;> first | exact hop.elim | skip
  rename_i i j
  obtain ⟨h1, h2⟩ := hg i j
  refine ⟨i, j, dx.intE, dy.intE, hop.1, ?_⟩
  rw [← h1]
  exact ret_v dom (scal_den h2) post hop.2
theorem simO_I0 {g : Int → Int → V} {g' : Int → Int → D} (hg : ∀ i j, vD (g' i j) = g i j ∧ scalD (g' i j)) : SimOp K (rI0 g) (oI (fun _ _ => True) g') := by
  intro F H x y d e Q k dom dx dy hop post
  obtain ⟨i, j, h1, h2, _, h3⟩ := simO_I (K := K) (C := fun _ _ => True) (g := g) hg F H x y d e Q k dom dx dy hop post
  exact ⟨i, j, h1, h2, h3⟩
abbrev I0 : Int → Int → Prop := fun _ _ => True
/-- the size of a product -/
def CMulB (i j : Int) : Prop := i.natAbs.log2 + j.natAbs.log2 < 100000000
theorem CMulB.ok {i j : Int} (h : CMulB i j) : IntMulOk i j := by
  have b : ∀ x : Int, Builtin.Int.intBits x ≤ x.natAbs.log2 + 1 := fun x => by
    unfold Builtin.Int.intBits
    split <;> omega
  have h1 := b i
  have h2 := b j
  have h3 : i.natAbs.log2 + j.natAbs.log2 < 100000000 := h
  have e : bitsLine = 134217728 := by decide
  unfold IntMulOk
  intro z
  rw [Bool.and_eq_true] at z
  have z2 := z.2
  unfold Builtin.Int.intTooBig at z2
  have z3 := of_decide_eq_true z2
  rw [e] at z3
  omega
theorem op_mulB {X : Cx} : OpR X (binaryOp .Mult) (rI CMulB fun i j => .int (i * j)) := opI fun _ _ _ _ _ _ _ hc q => mul_int q hc.ok
/-- // by a divisor that isn't 0, below 2 ^ 9000 in size -/
def CDivB (_ j : Int) : Prop := j ≠ 0 ∧ j.natAbs.log2 < 9000
theorem op_fdivB {X : Cx} : OpR X (binaryOp .FloorDiv) (rI CDivB fun i j => .int (i.fdiv j)) := opI fun _ _ _ _ _ _ _ hc q => floordiv_int hc.1 q (.inl (PyProof.noPylong_of_log2 hc.2))

def oSub : Op2 := oI I0 fun i j => .int (i - j)
def oDiv : Op2 := oI CDivB fun i j => .int (i.fdiv j)
def oMod : Op2 := oI (fun _ j => j ≠ 0) fun i j => .int (i.fmod j)
def oPow : Op2 := oI CPow fun i j => .int (i ^ j.toNat)
def oLt : Op2 := oI I0 fun i j => .bl (decide (i < j))
def oLe : Op2 := oI I0 fun i j => .bl (decide (i ≤ j))
def oGt : Op2 := oI I0 fun i j => .bl (decide (j < i))
def oGe : Op2 := oI I0 fun i j => .bl (decide (j ≤ i))
def oAdd : Op2 := fun d e k => match d, e with
  | .int i, .int j => k (.v (.int (i + j)))
  | .lst a, .lst b => a.length + b.length ≤ sizeLine ∧ k (.f (.lst (a ++ b)))
  | .tup a, .tup b => a.length + b.length ≤ sizeLine ∧ k (.v (.tup (a ++ b)))
  | _, _ => False
def oMul : Op2 := fun d e k => match d, e with
  | .int i, .int j => CMulB i j ∧ k (.v (.int (i * j)))
  | .lst a, .int j => j < 2 ^ 63 ∧ -(2 ^ 63) ≤ j ∧ a.length * j.toNat ≤ sizeLine ∧ k (.f (.lst (List.replicate j.toNat a).flatten))
  | .tup a, .int j => a ≠ [] ∧ 2 ≤ j ∧ j ≤ 1000 ∧ a.length ≤ 1000 ∧ k (.v (.tup (List.replicate j.toNat a).flatten))
  | _, _ => False
theorem Dens.nil_iff {F : Addr → Prop} {H : Hp} {xs : List V} {ds : List D} (h : Dens K F H xs ds) : xs = [] ↔ ds = [] := by
  cases h with
  | nil => simp
  | cons _ _ => simp
theorem simO_add : SimOp K (fun x y H Q => rI0 (fun i j => .int (i + j)) x y H Q ∨ (rCat x y H Q ∨ rCatA K x y H Q)) oAdd := by
  intro F H x y d e Q k dom dx dy hop post
  cases d <;> cases e <;> first | exact hop.elim | skip
  · rename_i i j
    exact .inl ⟨i, j, dx.intE, dy.intE, ret_v dom (.int _) post hop⟩
  · rename_i a b
    obtain ⟨p, xs, rfl, h1, h2⟩ := dx
    obtain ⟨q, ys, rfl, h3, h4⟩ := dy
    refine .inr (.inl ⟨p, q, xs, ys, rfl, rfl, h1, h3, by rw [h2.length, h4.length]; exact hop.1, fun c hc => ?_⟩)
    exact post _ _ _ _ (ext_new dom hc) (new_lst dom hc (h2.append h4)) hop.2
  · rename_i a b
    obtain ⟨p, xs, rfl, h1, h2⟩ := dx.tupE
    obtain ⟨q, ys, rfl, h3, h4⟩ := dy.tupE
    refine .inr (.inr ⟨p, q, xs, ys, rfl, rfl, h1, h3, by rw [h2.length, h4.length]; exact hop.1, fun e => ?_, fun e1 e2 => ?_, fun e1 e2 c hc => ?_⟩)
    · have ea := h2.nil_iff.mp e
      subst ea
      exact ret_v dom dy post hop.2
    · have eb := h4.nil_iff.mp e2
      subst eb
      have q := hop.2
      rw [List.append_nil] at q
      exact ret_v dom dx post q
    · exact post _ _ _ _ (ext_newF dom hc) (new_tup dom hc (h2.append h4)) hop.2
theorem simO_mul : SimOp K (fun x y H Q => rI CMulB (fun i j => .int (i * j)) x y H Q ∨ (rRep x y H Q ∨ rRepT K x y H Q)) oMul := by
  intro F H x y d e Q k dom dx dy hop post
  cases d <;> cases e <;> first | exact hop.elim | skip
  · rename_i i j
    exact .inl ⟨i, j, dx.intE, dy.intE, hop.1, ret_v dom (.int _) post hop.2⟩
  · rename_i a j
    obtain ⟨p, xs, rfl, h1, h2⟩ := dx
    refine .inr (.inl ⟨p, j, xs, rfl, dy.intE, h1, hop.2.1, hop.1, by rw [h2.length]; exact hop.2.2.1, fun c hc => ?_⟩)
    exact post _ _ _ _ (ext_new dom hc) (new_lst dom hc (h2.rep _)) hop.2.2.2
  · rename_i a j
    obtain ⟨p, xs, rfl, h1, h2⟩ := dx.tupE
    refine .inr (.inr ⟨p, j, xs, rfl, dy.intE, h1, fun e => hop.1 (h2.nil_iff.mp e), hop.2.1, hop.2.2.1, by rw [h2.length]; exact hop.2.2.2.1, fun c hc => ?_⟩)
    exact post _ _ _ _ (ext_newF dom hc) (new_tup dom hc (h2.rep _)) hop.2.2.2.2

/-! ### the same -/
mutual
def toPy : D → PyData
  | .non => .none
  | .bl b => .bool b
  | .int i => .int i
  | .str x => .str x
  | .lst l => .list (toPys l)
  | .tup l => .tuple (toPys l)
  | _ => .none
def toPys : List D → List PyData
  | [] => []
  | d :: r => toPy d :: toPys r
end
mutual
/-- data that == reads: no dict, no def; texts of plain signs; at most so deep -/
def eqOk : Nat → D → Bool
  | _, .non => true
  | _, .bl _ => true
  | _, .int _ => true
  | _, .str x => PyData.strOk x
  | 0, .lst _ => false
  | 0, .tup _ => false
  | n + 1, .lst l => eqOks n l
  | n + 1, .tup l => eqOks n l
  | _, .dic _ _ => false
  | _, .ref _ => false
  | _, .ty _ => false
  | _, .exc _ => false
  | _, .scr _ => false
def eqOks : Nat → List D → Bool
  | _, [] => true
  | n, d :: r => eqOk n d && eqOks n r
end
mutual
theorem eqOk_lay : ∀ (n : Nat) (d : D), eqOk n d = true → (toPy d).canLay0 = true ∧ (toPy d).depth ≤ n
  | n, .non, _ => ⟨by simp [toPy, PyData.canLay0], by simp [toPy, PyData.depth]⟩
  | n, .bl _, _ => ⟨by simp [toPy, PyData.canLay0], by simp [toPy, PyData.depth]⟩
  | n, .int _, _ => ⟨by simp [toPy, PyData.canLay0], by simp [toPy, PyData.depth]⟩
  | n, .str x, h => ⟨by simpa [toPy, PyData.canLay0, eqOk] using h, by simp [toPy, PyData.depth]⟩
  | 0, .lst _, h => by simp [eqOk] at h
  | 0, .tup _, h => by simp [eqOk] at h
  | n + 1, .lst l, h => by
    have q := eqOks_lay n l (by simpa [eqOk] using h)
    exact ⟨by simpa [toPy, PyData.canLay0] using q.1, by simp only [toPy, PyData.depth]; omega⟩
  | n + 1, .tup l, h => by
    have q := eqOks_lay n l (by simpa [eqOk] using h)
    exact ⟨by simpa [toPy, PyData.canLay0] using q.1, by simp only [toPy, PyData.depth]; omega⟩
  | n, .dic _ _, h => by cases n <;> simp [eqOk] at h
  | n, .ref _, h => by cases n <;> simp [eqOk] at h
  | n, .ty _, h => by cases n <;> simp [eqOk] at h
  | n, .exc _, h => by cases n <;> simp [eqOk] at h
  | n, .scr _, h => by cases n <;> simp [eqOk] at h
theorem eqOks_lay : ∀ (n : Nat) (l : List D), eqOks n l = true → PyData.canLayAll0 (toPys l) = true ∧ PyData.depthAll (toPys l) ≤ n
  | n, [], _ => ⟨by simp [toPys, PyData.canLayAll0], by simp [toPys, PyData.depthAll]⟩
  | n, d :: r, h => by
    simp only [eqOks, Bool.and_eq_true] at h
    have q1 := eqOk_lay n d h.1
    have q2 := eqOks_lay n r h.2
    exact ⟨by simp [toPys, PyData.canLayAll0, q1.1, q2.1], by simp only [toPys, PyData.depthAll]; omega⟩
end
theorem eqOk_shaped {d : D} (h : eqOk 64 d = true) : SeqAt.shaped (toPy d) = true := by
  have q := eqOk_lay 64 d h
  unfold SeqAt.shaped
  simp [q.1, q.2]
mutual
theorem den_dp {F : Addr → Prop} {H : Hp} : ∀ (n : Nat) (d : D) {v : V}, eqOk n d = true → Den K F H v d → Dp K H v (toPy d)
  | n, .non, _, _, h => by cases h; rw [toPy]; exact .non
  | n, .bl _, _, _, h => by cases h; rw [toPy]; exact .bl _
  | n, .int _, _, _, h => by cases h; rw [toPy]; exact .int _
  | n, .str x, _, _, h => by cases h; rw [toPy]; exact .str _
  | 0, .lst _, _, q, _ => by simp [eqOk] at q
  | 0, .tup _, _, q, _ => by simp [eqOk] at q
  | n + 1, .lst l, _, q, h => by
    rw [toPy]
    cases h with
    | lst f e r => exact .lst (.of e) (den_dps n l (by simpa [eqOk] using q) r)
  | n + 1, .tup l, _, q, h => by
    rw [toPy]
    obtain ⟨a, xs, rfl, h1, h2⟩ := Den.tupE h
    exact .tup h1 (den_dps n l (by simpa [eqOk] using q) h2)
  | n, .dic _ _, _, h, _ => by cases n <;> simp [eqOk] at h
  | n, .ref _, _, h, _ => by cases n <;> simp [eqOk] at h
  | n, .ty _, _, h, _ => by cases n <;> simp [eqOk] at h
  | n, .exc _, _, h, _ => by cases n <;> simp [eqOk] at h
  | n, .scr _, _, h, _ => by cases n <;> simp [eqOk] at h
theorem den_dps {F : Addr → Prop} {H : Hp} : ∀ (n : Nat) (l : List D) {vs : List V}, eqOks n l = true → Dens K F H vs l → DpAll K H vs (toPys l)
  | n, [], _, _, h => by cases h; rw [toPys]; exact .nil
  | n, d :: r, _, q, h => by
    simp only [eqOks, Bool.and_eq_true] at q
    rw [toPys]
    cases h with
    | cons h t => exact .cons (den_dp n d q.1 h) (den_dps n r q.2 t)
end
theorem db_dp {F : Addr → Prop} {H : Hp} {d : D} {v : V} (q : eqOk 64 d = true) (h : DB K F H v d) : Dp K H v (toPy d) := by
  cases d with
  | lst l =>
    obtain ⟨a, xs, rfl, h1, h2⟩ := h
    rw [toPy]
    exact .lst (.of h1) (den_dps 63 l (by simpa [eqOk] using q) h2)
  | dic ks vs => simp [eqOk] at q
  | _ => exact den_dp 64 _ q h
def eqD (d e : D) : Bool := PyData.eqv (toPy d) (toPy e)
def oEq : Op2 := fun d e k => eqOk 64 d = true ∧ eqOk 64 e = true ∧ k (.v (.bl (eqD d e)))
def oNe : Op2 := fun d e k => eqOk 64 d = true ∧ eqOk 64 e = true ∧ k (.v (.bl (!eqD d e)))
theorem simO_eq : SimOp K (rEqD K) oEq := by
  intro F H x y d e Q k dom dx dy hop post
  exact ⟨_, _, db_dp hop.1 dx, db_dp hop.2.1 dy, eqOk_shaped hop.1, eqOk_shaped hop.2.1, ret_v dom (.bl _) post hop.2.2⟩
theorem simO_ne : SimOp K (rNeD K) oNe := by
  intro F H x y d e Q k dom dx dy hop post
  exact ⟨_, _, db_dp hop.1 dx, db_dp hop.2.1 dy, eqOk_shaped hop.1, eqOk_shaped hop.2.1, ret_v dom (.bl _) post hop.2.2⟩
def isNon : D → Bool
  | .non => true
  | _ => false
def oIsN : Op2 := fun d e k => e = .non ∧ k (.v (.bl (isNon d)))
def oNotN : Op2 := fun d e k => e = .non ∧ k (.v (.bl (!isNon d)))
theorem isNon_db {F : Addr → Prop} {H : Hp} {d : D} {v : V} (h : DB K F H v d) : decide (v = .non) = isNon d := by
  cases d with
  | non => cases h; rfl
  | bl b => cases h; rfl
  | int b => cases h; rfl
  | str b => cases h; rfl
  | ty b => cases h; rfl
  | ref b => cases h; rfl
  | exc b => cases h; rfl
  | scr b => obtain ⟨a, rfl, _⟩ := Den.scrE h; rfl
  | lst l => obtain ⟨a, xs, rfl, h1, h2⟩ := h; rfl
  | tup l => obtain ⟨a, xs, rfl, h1, h2⟩ := h.tupE; rfl
  | dic k l => obtain ⟨a, xs, rfl, h1, h2⟩ := h; rfl
theorem simO_isN : SimOp K (fun x y H Q => y = .non ∧ Q (.bl (decide (x = .non))) H) oIsN := by
  intro F H x y d e Q k dom dx dy hop post
  obtain ⟨rfl, hop⟩ := hop
  refine ⟨dy.nonE, ?_⟩
  rw [isNon_db dx]
  exact ret_v dom (.bl _) post hop
theorem simO_notN : SimOp K (fun x y H Q => y = .non ∧ Q (.bl (!decide (x = .non))) H) oNotN := by
  intro F H x y d e Q k dom dx dy hop post
  obtain ⟨rfl, hop⟩ := hop
  refine ⟨dy.nonE, ?_⟩
  rw [isNon_db dx]
  exact ret_v dom (.bl _) post hop
/-- x in a list or tuple of whole numbers -/
def intsOf : List D → Option (List Int)
  | [] => some []
  | .int i :: r => (intsOf r).map (i :: ·)
  | _ :: _ => none
theorem intsOf_eq : ∀ {l : List D} {ns : List Int}, intsOf l = some ns → l = ns.map D.int
  | [], ns, h => by cases h; rfl
  | .int i :: r, ns, h => by
    unfold intsOf at h
    cases q : intsOf r with
    | none => rw [q] at h; cases h
    | some ms =>
      rw [q] at h
      cases h
      rw [intsOf_eq q]; rfl
theorem intsOf_map : ∀ ns : List Int, intsOf (ns.map D.int) = some ns
  | [] => rfl
  | n :: r => by
    show (intsOf (r.map D.int)).map (n :: ·) = _
    rw [intsOf_map r]; rfl
def seqOf : D → Option (List D)
  | .lst l => some l
  | .tup l => some l
  | _ => none
def oIn (neg : Bool) : Op2 := fun d e k => match d with
  | .int i => ∃ l ns, seqOf e = some l ∧ intsOf l = some ns ∧ k (.v (.bl (if neg then !decide (i ∈ ns) else decide (i ∈ ns))))
  | _ => False
theorem inV_ints (i : Int) : ∀ ns : List Int, inV (.int i) (ns.map V.int) = decide (i ∈ ns)
  | [] => by simp [inV]
  | n :: r => by
    have ih := inV_ints i r
    unfold inV at ih ⊢
    rw [List.map_cons, List.any_cons, ih]
    have : eqV (.int n) (.int i) = decide (i = n) := by
      unfold eqV
      by_cases h : i = n
      · subst h; simp
      · have h' : ¬ n = i := fun z => h z.symm
        simp [h, h']
    rw [this]
    by_cases h : i = n <;> simp [h]
theorem all_flat (ns : List Int) : (ns.map V.int).all flatV = true := by
  rw [List.all_eq_true]
  intro x hx
  obtain ⟨i, _, rfl⟩ := List.mem_map.mp hx
  rfl
theorem seq_db {F : Addr → Prop} {H : Hp} {v : V} {e : D} {l : List D} (h : DB K F H v e) (q : seqOf e = some l) : ∃ a xs, v = .ref a ∧ (SqL K H a xs ∨ SqT K H a xs) ∧ Dens K F H xs l := by
  cases e with
  | lst l' =>
    cases q
    obtain ⟨a, xs, rfl, h1, h2⟩ := h
    exact ⟨a, xs, rfl, .inl (.of h1), h2⟩
  | tup l' =>
    cases q
    obtain ⟨a, xs, rfl, h1, h2⟩ := h.tupE
    exact ⟨a, xs, rfl, .inr h1, h2⟩
  | _ => cases q
theorem simO_in (neg : Bool) : SimOp K (rIn K neg) (oIn neg) := by
  intro F H x y d e Q k dom dx dy hop post
  cases d <;> first | exact hop.elim | skip
  rename_i i
  obtain ⟨l, ns, h1, h2, q⟩ := hop
  obtain ⟨a, xs, rfl, hs, hd⟩ := seq_db dy h1
  have el := intsOf_eq h2
  subst el
  have ex := hd.intsE
  subst ex
  rw [dx.intE]
  refine ⟨a, _, rfl, hs, rfl, all_flat ns, ?_⟩
  rw [inV_ints]
  exact ret_v dom (.bl _) post q

/-! ### one value -/
def oNeg : Op1 := fun d k => match d with
  | .int i => k (.v (.int (-i)))
  | _ => False
theorem simU_neg : SimU K (rU fun i => .int (-i)) oNeg := by
  intro F H x d Q k dom dx hop post
  cases d <;> first | exact hop.elim | skip
  exact ⟨_, dx.intE, ret_v dom (.int _) post hop⟩
/-- a built-in of one argument -/
def lenD : D → Option Nat
  | .lst l => some l.length
  | .tup l => some l.length
  | .scr l => some l.length
  | _ => none
def oLen : Op1 := fun d k => ∃ n, lenD d = some n ∧ k (.v (.int n))
def r1 (r : List V → Hp → VK → Prop) : V → Hp → VK → Prop := fun x H Q => r [x] H Q
theorem simU_len : SimU K (r1 fun xs H Q => ∃ x n, xs = [x] ∧ LenV K x H n ∧ Q (.int n) H) oLen := by
  intro F H x d Q k dom dx hop post
  obtain ⟨n, e, q⟩ := hop
  refine ⟨x, n, rfl, ?_, ret_v dom (.int _) post q⟩
  cases d with
  | lst l => cases e; obtain ⟨a, xs, rfl, h1, h2⟩ := dx; exact .inl ⟨xs, .of h1, h2.length.symm⟩
  | tup l => cases e; obtain ⟨a, xs, rfl, h1, h2⟩ := dx.tupE; exact .inr ⟨xs, h1, h2.length.symm⟩
  | scr l => cases e; obtain ⟨a, rfl, h1⟩ := Den.scrE dx; exact .inl ⟨_, h1, by simp⟩
  | _ => cases e
def oAbs : Op1 := fun d k => match d with
  | .int i => k (.v (.int (if i < 0 then -i else i)))
  | _ => False
theorem simU_abs : SimU K (r1 fun xs H Q => ∃ i, xs = [.int i] ∧ Q (.int (if i < 0 then -i else i)) H) oAbs := by
  intro F H x d Q k dom dx hop post
  cases d <;> first | exact hop.elim | skip
  rename_i i
  refine ⟨i, by rw [dx.intE], ret_v dom (.int _) post hop⟩
def oInt : Op1 := fun d k => match d with
  | .int i => k (.v (.int i))
  | _ => False
theorem simU_int : SimU K (r1 fun xs H Q => (∃ i, xs = [.int i] ∧ Q (.int i) H) ∨ ∃ k, xs = [.bl k] ∧ Q (.int (if k then 1 else 0)) H) oInt := by
  intro F H x d Q k dom dx hop post
  cases d <;> first | exact hop.elim | skip
  rename_i i
  exact .inl ⟨i, by rw [dx.intE], ret_v dom (.int _) post hop⟩
def oTuple : Op1 := fun d k => match d with
  | .lst l => k (.v (.tup l))
  | .tup l => k (.v (.tup l))
  | _ => False
theorem simU_tuple : SimU K (r1 fun xs H Q => ∃ p ys, xs = [.ref p] ∧ ((SqL K H p ys ∧ ∀ l, H l = none → Q (.ref l) (upd H l (.tup ys))) ∨ (SqT K H p ys ∧ Q (.ref p) H))) oTuple := by
  intro F H x d Q k dom dx hop post
  cases d <;> first | exact hop.elim | skip
  · obtain ⟨a, xs, rfl, h1, h2⟩ := dx
    exact ⟨a, xs, rfl, .inl ⟨.of h1, fun c hc => post _ _ _ _ (ext_newF dom hc) (new_tup dom hc h2) hop⟩⟩
  · obtain ⟨a, xs, rfl, h1, h2⟩ := dx.tupE
    exact ⟨a, xs, rfl, .inr ⟨h1, ret_v dom dx post hop⟩⟩
def oList : Op1 := fun d k => ∃ l, seqOf d = some l ∧ k (.f (.lst l))
theorem simU_list : SimU K (r1 fun xs H Q => ∃ p ys, xs = [.ref p] ∧ (SqL K H p ys ∨ SqT K H p ys) ∧ ∀ l, H l = none → Q (.ref l) (upd H l (.lst ys))) oList := by
  intro F H x d Q k dom dx hop post
  obtain ⟨l, e, q⟩ := hop
  obtain ⟨a, xs, rfl, hs, hd⟩ := seq_db dx e
  exact ⟨a, xs, rfl, hs, fun c hc => post _ _ _ _ (ext_new dom hc) (new_lst dom hc hd) q⟩
def oSum : Op1 := fun d k => match d with
  | .lst l => ∃ ns, intsOf l = some ns ∧ k (.v (.int ns.sum))
  | _ => False
theorem simU_sum : SimU K (r1 (rSum K)) oSum := by
  intro F H x d Q k dom dx hop post
  cases d <;> first | exact hop.elim | skip
  obtain ⟨ns, e, q⟩ := hop
  obtain ⟨a, xs, rfl, h1, h2⟩ := dx
  rw [intsOf_eq e] at h2
  have ex := h2.intsE
  subst ex
  exact ⟨a, ns, rfl, .of h1, ret_v dom (.int _) post q⟩
def oMaxL : Op1 := fun d k => match d with
  | .lst l => ∃ ns, intsOf l = some ns ∧ 0 < ns.length ∧ ∀ m, m ∈ ns → (∀ y, y ∈ ns → y ≤ m) → k (.v (.int m))
  | _ => False
theorem simU_maxL : SimU K (r1 (rMax K)) oMaxL := by
  intro F H x d Q k dom dx hop post
  cases d <;> first | exact hop.elim | skip
  obtain ⟨ns, e, hl, q⟩ := hop
  obtain ⟨a, xs, rfl, h1, h2⟩ := dx
  rw [intsOf_eq e] at h2
  have ex := h2.intsE
  subst ex
  exact ⟨a, ns, rfl, .of h1, hl, fun m h1 h2 => ret_v dom (.int _) post (q m h1 h2)⟩
def oMinL : Op1 := fun d k => match d with
  | .lst l => ∃ ns, intsOf l = some ns ∧ 0 < ns.length ∧ ∀ m, m ∈ ns → (∀ y, y ∈ ns → m ≤ y) → k (.v (.int m))
  | _ => False
theorem simU_minL : SimU K (r1 (rMin K)) oMinL := by
  intro F H x d Q k dom dx hop post
  cases d <;> first | exact hop.elim | skip
  obtain ⟨ns, e, hl, q⟩ := hop
  obtain ⟨a, xs, rfl, h1, h2⟩ := dx
  rw [intsOf_eq e] at h2
  have ex := h2.intsE
  subst ex
  exact ⟨a, ns, rfl, .of h1, hl, fun m h1 h2 => ret_v dom (.int _) post (q m h1 h2)⟩
def blsOf : List D → Option (List Bool)
  | [] => some []
  | .bl i :: r => (blsOf r).map (i :: ·)
  | _ :: _ => none
theorem blsOf_eq : ∀ {l : List D} {ns : List Bool}, blsOf l = some ns → l = ns.map D.bl
  | [], ns, h => by cases h; rfl
  | .bl i :: r, ns, h => by
    unfold blsOf at h
    cases q : blsOf r with
    | none => rw [q] at h; cases h
    | some ms =>
      rw [q] at h
      cases h
      rw [blsOf_eq q]; rfl
theorem blsOf_map : ∀ ns : List Bool, blsOf (ns.map D.bl) = some ns
  | [] => rfl
  | n :: r => by
    show (blsOf (r.map D.bl)).map (n :: ·) = _
    rw [blsOf_map r]; rfl
theorem Dens.blsE {F : Addr → Prop} {H : Hp} : ∀ {ns : List Bool} {vs : List V}, Dens K F H vs (ns.map D.bl) → vs = ns.map V.bl
  | [], _, h => by cases h; rfl
  | n :: r, _, h => by
    cases h with
    | cons h t => rw [h.blE, Dens.blsE t]; rfl
def oAll : Op1 := fun d k => match d with
  | .lst l => ∃ bs, blsOf l = some bs ∧ k (.v (.bl (bs.all id)))
  | _ => False
theorem simU_all : SimU K (r1 (rAll K)) oAll := by
  intro F H x d Q k dom dx hop post
  cases d <;> first | exact hop.elim | skip
  obtain ⟨ns, e, q⟩ := hop
  obtain ⟨a, xs, rfl, h1, h2⟩ := dx
  rw [blsOf_eq e] at h2
  have ex := h2.blsE
  subst ex
  exact ⟨a, ns, rfl, .of h1, ret_v dom (.bl _) post q⟩
def oAny : Op1 := fun d k => match d with
  | .lst l => ∃ bs, blsOf l = some bs ∧ k (.v (.bl (bs.any id)))
  | _ => False
theorem simU_any : SimU K (r1 (rAny K)) oAny := by
  intro F H x d Q k dom dx hop post
  cases d <;> first | exact hop.elim | skip
  obtain ⟨ns, e, q⟩ := hop
  obtain ⟨a, xs, rfl, h1, h2⟩ := dx
  rw [blsOf_eq e] at h2
  have ex := h2.blsE
  subst ex
  exact ⟨a, ns, rfl, .of h1, ret_v dom (.bl _) post q⟩
/-- sorted of whole numbers -/
def oSorted : Op1 := fun d k => match d with
  | .lst l => ∃ ns, intsOf l = some ns ∧ ∀ ms : List Int, ms.Perm ns → ms.Pairwise (· ≤ ·) → k (.f (.lst (ms.map D.int)))
  | _ => False
theorem simU_sorted : SimU K (r1 (rSortedI K)) oSorted := by
  intro F H x d Q k dom dx hop post
  cases d <;> first | exact hop.elim | skip
  obtain ⟨ns, e, q⟩ := hop
  obtain ⟨a, xs, rfl, h1, h2⟩ := dx
  rw [intsOf_eq e] at h2
  have ex := h2.intsE
  subst ex
  exact ⟨a, ns, rfl, .of h1, fun ms c h1 h2 hc => post _ _ _ _ (ext_new dom hc) (new_lst dom hc (Dens.ints ms)) (q ms h1 h2)⟩
theorem call_reprB {X : Cx} : CallR X (.builtin "repr") (fun xs H Q => (∃ b, xs = [.bl b] ∧ Q (.str (if b then "True" else "False")) H) ∨ (xs = [.non] ∧ Q (.str "None") H)) := by
  intro pins s σ H xs us Q I r h
  rcases h with ⟨b, rfl, q⟩ | ⟨rfl, q⟩
  · obtain ⟨u, rfl, rb⟩ := vals1 r
    cases rb
    exact PySem.P.repr_of_bool ⟨.str _, H, I.tok _, ⟨_, rfl⟩, q⟩
  · obtain ⟨u, rfl, rb⟩ := vals1 r
    cases rb
    exact PySem.P.repr_of_none ⟨.str _, H, I.tok _, ⟨_, rfl⟩, q⟩
end
end DL

set_option maxHeartbeats 4000000
namespace DL
open PySem PySem.Spec PyProof.Rows L2
section
variable {prog : Program} {w : World} {A : Around} {E : Value → Shared → Prop} {s : Shared}
theorem adjust_rev (n : Nat) : Builtin.Slice.sliceAdjust none none (-1) (n : Int) = ((n : Int) - 1, -1) := by
  unfold Builtin.Slice.sliceAdjust
  simp
theorem places_rev (n : Nat) : Builtin.Slice.slicePlaces ((n : Int) - 1) (-1) (-1) = n := by
  unfold Builtin.Slice.slicePlaces
  simp
  split <;> omega
theorem sliceApplied_rev {sl : Addr} {t : Tok} {n : Nat} {Q : Int × Int × Nat → Shared → Prop} (hs : s.heap.IsSliceOf sl .none .none (.int (-1) t))
    (h : Q ((n : Int) - 1, -1, n) s) : wpAny (model prog w) A (Builtin.Slice.sliceApplied (.ref sl) (pure (n : Int))) Q E s := by
  obtain ⟨os, hos, hcs, hds⟩ := id hs
  unfold Builtin.Slice.sliceApplied Builtin.Slice.sliceFields
  refine wpAny_bind (wpAny_bind (wpAny_field hos hds (x := .none) rfl (wpAny_bind (wpAny_field hos hds (x := .none) rfl (wpAny_bind (wpAny_field hos hds (x := .int (-1) t) rfl (wpAny_pure ?_)))))))
  refine wpAny_bind (slicePart_int ?_)
  show wpAny _ _ (if ((-1 : Int) == 0) = true then _ else _) _ _ s
  rw [if_neg (by decide)]
  refine wpAny_bind (slicePart_none (wpAny_bind (slicePart_none (wpAny_bind (wpAny_pure ?_)))))
  show wpAny _ _ (match Builtin.Slice.sliceAdjust none none (-1) (n : Int) with | (lo, hi) => pure (lo, (-1 : Int), Builtin.Slice.slicePlaces lo hi (-1))) _ _ s
  rw [adjust_rev n]
  show wpAny _ _ (pure ((n : Int) - 1, (-1 : Int), Builtin.Slice.slicePlaces ((n : Int) - 1) (-1) (-1))) _ _ s
  rw [places_rev]
  exact wpAny_pure h
theorem fm_congr {α β : Type} {f g : α → Option β} : ∀ {l : List α}, (∀ m ∈ l, f m = g m) → l.filterMap f = l.filterMap g
  | [], _ => rfl
  | a :: r, h => by
    rw [List.filterMap_cons, List.filterMap_cons, h a List.mem_cons_self, fm_congr fun m hm => h m (List.mem_cons_of_mem _ hm)]
theorem pick_rev (xs : Array Value) : ((List.range xs.size).filterMap fun (m : Nat) => xs[((xs.size : Int) - 1 + (m : Int) * (-1)).toNat]?).toArray = xs.toList.reverse.toArray := by
  have h : ∀ m ∈ List.range xs.size, xs[((xs.size : Int) - 1 + (m : Int) * (-1)).toNat]? = xs[xs.size - 1 - m]? := fun m hm => by
    have : m < xs.size := List.mem_range.mp hm
    have e : ((xs.size : Int) - 1 + (m : Int) * (-1)).toNat = xs.size - 1 - m := by omega
    rw [e]
  have e1 : (List.range xs.size).filterMap (fun (m : Nat) => xs[((xs.size : Int) - 1 + (m : Int) * (-1)).toNat]?) = ((List.range xs.size).map (fun m => xs.size - 1 - m)).filterMap (xs[·]?) := by
    rw [List.filterMap_map]
    exact fm_congr h
  rw [e1, PySem.W.krv_range, List.filterMap_reverse, PySem.W.krv_all]
theorem getItem_tuple_rev {t sl : Addr} {tk : Tok} {items : Array Value} {Q : Value → Shared → Prop} (ht : IsTup s.heap t items) (hs : s.heap.IsSliceOf sl .none .none (.int (-1) tk))
    (h : Q (.ref s.heap.objs.size) { s with heap := s.heap.push { cls := .type "tuple", data := .seq items.toList.reverse.toArray } })
    (hsz : items.size ≤ sizeLine) : wpAny (model prog w) A (getItem (.ref t) (.ref sl)) Q E s := by
  have htake : sizeOk (.seq items.toList.reverse.toArray) := by
    show items.toList.reverse.toArray.size ≤ sizeLine
    simpa using hsz
  obtain ⟨os, hos, hcs, hds⟩ := id hs
  have hTs : s.TypeIs (.ref sl) "slice" := ⟨os, hos, hcs⟩
  unfold getItem
  try with_reducible refine wpAny_holding ?_
  first | refine wpAny_bind (wpAny_pure ?_) | skip
  refine wpAny_bind (wpAny_sequenceKey ht.typeIs (by decide) ?_)
  refine wpAny_bind (wpAny_callSpecial?_slot (name := Str.ofString "__getitem__") ht.typeIs PyProof.Rows.slot_tuple_getitem
    (wpAny_call_entry PyProof.Rows.slot_tuple_getitem ht.typeIs entry_tuple_getitem ?_ (args_tuple_getitem _ _)))
  show wpAny _ _ (Builtin.Tuple.tupleItemsOf (.ref t) >>= _) _ _ s
  refine wpAny_bind (tupleItemsOf_ ht ?_)
  refine wpAny_bind (wpAny_typeOf hTs ?_)
  rw [if_pos (by decide)]
  refine wpAny_bind (sliceApplied_rev hs ?_)
  have hno : ¬ (((items.size : Int) - 1 == 0 && (-1 : Int) == 1 && items.size == items.size) = true) := by
    intro q
    rw [Bool.and_eq_true, Bool.and_eq_true] at q
    exact absurd q.1.2 (by decide)
  show wpAny _ _ (if (((items.size : Int) - 1 == 0 && (-1 : Int) == 1 && items.size == items.size) = true) then _ else _) _ _ s
  rw [if_neg hno, pick_rev]
  first
    | exact wpAny_bind (m := Builtin.Tuple.tupleExact _) (wpAny_newObj_type (wpAny_pure ⟨_, rfl, wpAny_pure h⟩) htake)
    | exact wpAny_bind (m := Builtin.Tuple.tupleExact _) (wpAny_newObj_type (wpAny_bind (wpAny_pure (wpAny_pure ⟨_, rfl, wpAny_pure h⟩))) htake)
    | exact wpAny_bind (wpAny_bind (m := Builtin.Tuple.tupleExact _) (wpAny_newObj_type (wpAny_pure (wpAny_pure ⟨_, rfl, wpAny_pure h⟩)) htake))
    | exact wpAny_bind (wpAny_bind (m := Builtin.Tuple.tupleExact _) (wpAny_newObj_type (wpAny_pure ⟨_, rfl, wpAny_pure h⟩) htake))
end
section
variable {X : Cx}
def rRevT (K : PySem.W.Frag) : V → Hp → VK → Prop := fun x H1 Q => ∃ a xs, x = .ref a ∧ SqT K H1 a xs ∧ ∀ p, H1 p = none → Q (.ref p) (upd H1 p (.tup xs.reverse))
theorem pe_revT {e : Expr} {te : TE} {k : Nat} {p1 p2 p3 pos : Pos} (he : PE X e te) : PE X (.Subscript e (.Slice none none (some (.UnaryOp .USub (.Constant (.int 1) k p1) p2)) p3) pos) (fun σ H Q => te σ H fun x H1 => rRevT X.K x H1 Q) := by
  refine ⟨fun pins s σ H Q I h => ?_⟩
  refine Subscript_ (thn (he.run pins s σ H _ I h) fun v s1 ⟨x, H1, I1, r1, q1⟩ => ?_)
  obtain ⟨a, xs, ex, hx, q⟩ := q1
  subst ex
  cases r1
  have hst : PO X (some (.UnaryOp .USub (.Constant (.int 1) k p1) p2)) (tPart (tUn (rU fun i => .int (-i)) (tC (.int 1)))) := po_some (pe_un un_neg pe_int)
  refine wpAny_Slice (thn (po_none.run pins s1 σ H1 (fun o H2 => o = none ∧ H2 = H1) I1 ⟨rfl, rfl⟩) fun vl s2 ⟨l, H2, I2, pl, el, e2⟩ => ?_)
  subst el e2
  refine thn (po_none.run pins s2 σ H2 (fun o H3 => o = none ∧ H3 = H2) I2 ⟨rfl, rfl⟩) fun vu s3 ⟨u, H3, I3, pu, eu, e3⟩ => ?_
  subst eu e3
  refine thn (hst.run pins s3 σ H3 (fun o H4 => o = some (-1) ∧ H4 = H3) I3 ⟨1, rfl, -1, rfl, rfl, rfl⟩) fun vs s4 ⟨o, H4, I4, ps, eo, e4⟩ => ?_
  subst eo e4
  have I5 : Inv X pins σ H4 { s4 with heap := s4.heap.push { cls := .type "slice", data := .fields #[vl, vu, vs] } } := I4.kept (t' := s4.toks) fun b ob q => Heap.get?_push_of_some _ q
  obtain ⟨its, r, ht, hz⟩ := I5.tuple hx
  have hlen := r.length
  cases pl
  cases pu
  obtain ⟨tk, rfl⟩ : ∃ tk, vs = Value.int (-1) tk := by
    cases ps
    exact ⟨_, rfl⟩
  show wpAny (model X.prog X.w) X.A (subscriptTail e (.Slice none none (some (.UnaryOp .USub (.Constant (.int 1) k p1) p2)) p3) (.ref a) (.ref s4.heap.objs.size)) (EP X pins σ Q) X.xe { s4 with heap := s4.heap.push { cls := .type "slice", data := .fields #[.none, .none, .int (-1) tk] } }
  refine tail_any (ops := [.ref a, .ref s4.heap.objs.size]) ht.typeIs (PyProof.Rows.slot_tuple_getitem.lookup) ?_ (by with_unfolding_all rfl)
  refine getItem_tuple_rev ht (Heap.IsSliceOf.new _ .none .none (.int (-1) tk)) ?_ (by rw [List.size_toArray]; omega)
  refine ⟨.ref _, _, I5.laid (t' := s4.toks) (o := .tup xs.reverse) (fun b ob q => Heap.get?_push_of_some _ q) (Nat.le_refl _) ?_, rfl, q _ (I5.hok.fresh (Nat.le_refl _))⟩
  refine ⟨by rw [List.length_reverse]; exact hz, its.reverse, r.reverse, IsTup.new _ _⟩
end
end DL

set_option maxHeartbeats 4000000
/-! DL4: places, slices, methods of one's own lists, isinstance, loops, comprehensions over pure data. -/
namespace DL
open PySem PySem.Spec PyProof.Rows L2

section
variable {K : PySem.W.Frag} {W : WX} {da : GE}
/-! ### two arguments -/
def r2 (r : List V → Hp → VK → Prop) : R2 := fun x y H Q => r [x, y] H Q
def oMax2 : Op2 := oI I0 fun i j => .int (if j > i then j else i)
def oMin2 : Op2 := oI I0 fun i j => .int (if j < i then j else i)
theorem simO_max2 : SimOp K (r2 fun xs H Q => ∃ i j, xs = [.int i, .int j] ∧ Q (.int (if j > i then j else i)) H) oMax2 := by
  intro F H x y d e Q k dom dx dy hop post
  cases d <;> cases e <;> first | exact hop.elim | skip
  rename_i i j
  exact ⟨i, j, by rw [dx.intE, dy.intE], ret_v dom (.int _) post hop.2⟩
theorem simO_min2 : SimOp K (r2 fun xs H Q => ∃ i j, xs = [.int i, .int j] ∧ Q (.int (if j < i then j else i)) H) oMin2 := by
  intro F H x y d e Q k dom dx dy hop post
  cases d <;> cases e <;> first | exact hop.elim | skip
  rename_i i j
  exact ⟨i, j, by rw [dx.intE, dy.intE], ret_v dom (.int _) post hop.2⟩
/-- isinstance of plain data against a built-in class -/
inductive Cls6 where | int | bool | str | list | tuple | dict
def Cls6.n : Cls6 → String
  | .int => "int"
  | .bool => "bool"
  | .str => "str"
  | .list => "list"
  | .tuple => "tuple"
  | .dict => "dict"
def isC : D → Cls6 → Option Bool
  | .non, _ => some false
  | .bl _, .bool => some true
  | .bl _, .int => some true
  | .bl _, _ => some false
  | .int _, .int => some true
  | .int _, _ => some false
  | .str _, .str => some true
  | .str _, _ => some false
  | .lst _, .list => some true
  | .lst _, _ => some false
  | .tup _, .tuple => some true
  | .tup _, _ => some false
  | .dic _ _, .dict => some true
  | .dic _ _, _ => some false
  | _, _ => none
theorem tyx_db {F : Addr → Prop} {H : Hp} {v : V} {d : D} (h : DB K F H v d) (c : Cls6) {b : Bool} (e : isC d c = some b) : ∃ a, TyX K H v (.type a) ∧ kitB a c.n = some b := by
  cases d with
  | non => cases h; refine ⟨_, .base .non, ?_⟩; cases c <;> cases e <;> decide +kernel
  | bl x => cases h; refine ⟨_, .base (.bl _), ?_⟩; cases c <;> cases e <;> decide +kernel
  | int x => cases h; refine ⟨_, .base (.int _), ?_⟩; cases c <;> cases e <;> decide +kernel
  | str x => cases h; refine ⟨_, .base (.str _), ?_⟩; cases c <;> cases e <;> decide +kernel
  | lst l =>
    obtain ⟨a, xs, rfl, h1, h2⟩ := h
    refine ⟨_, .base (.lst h1), ?_⟩
    cases c <;> cases e <;> decide +kernel
  | dic ks l =>
    obtain ⟨a, xs, rfl, h1, h2⟩ := h
    refine ⟨_, .base (.dK h1), ?_⟩
    cases c <;> cases e <;> decide +kernel
  | tup l =>
    have q : TyX K H v (.type "tuple") := by
      cases (show Den K F H v (.tup l) from h) with
      | tup f r =>
        rcases f with ⟨_, f⟩ | ⟨o, its, n, h1, h2, h3, h4, h5⟩
        · exact .base (.tup f)
        · exact .kTuple h1 h2
    refine ⟨_, q, ?_⟩
    cases c <;> cases e <;> decide +kernel
  | ref a => cases e
  | exc a => cases e
  | scr a => cases e
  | ty n => cases e
def oIsi : Op2 := fun d e k => ∃ c b, e = .ty (Cls6.n c) ∧ isC d c = some b ∧ k (.v (.bl b))
theorem simO_isi : SimOp K (r2 (rIsi K)) oIsi := by
  intro F H x y d e Q k dom dx dy hop post
  obtain ⟨c, b, rfl, e, q⟩ := hop
  obtain ⟨a, h1, h2⟩ := tyx_db dx c e
  exact ⟨x, y, _, _, b, rfl, by rw [dy.tyE]; exact .ty _, h1, kit_ty h2, ret_v dom (.bl _) post q⟩

/-! ### places -/
theorem atI_map {l : List D} {xs : List V} {F : Addr → Prop} {H : Hp} {i : Int} {d : D} (h : Dens K F H xs l) (e : atI l i = some d) : ∃ v, atI xs i = some v ∧ Den K F H v d := by
  unfold atI at e ⊢
  rw [h.length]
  cases q : ixN l.length i with
  | none => rw [q] at e; cases e
  | some j =>
    rw [q] at e
    exact h.getD (show l[j]? = some d from e)
def oIx : Op2 := fun d e k => match e with
  | .int i => ∃ l x, seqOf d = some l ∧ atI l i = some x ∧ k (.v x)
  | _ => False
theorem simO_ix : SimOp K (fun x y H Q => rIxL K x y H Q ∨ rIxT K x y H Q) oIx := by
  intro F H x y d e Q k dom dx dy hop post
  cases e <;> first | exact hop.elim | skip
  rename_i i
  obtain ⟨l, z, e1, e2, q⟩ := hop
  obtain ⟨a, xs, rfl, hs, hd⟩ := seq_db dx e1
  obtain ⟨v, e3, den⟩ := atI_map hd e2
  rcases hs with hs | hs
  · exact .inl ⟨a, xs, i, v, rfl, dy.intE, hs, e3, ret_v dom den post q⟩
  · exact .inr ⟨a, xs, i, v, rfl, dy.intE, hs, e3, ret_v dom den post q⟩
/-- parts of slices -/
abbrev PTO := List PV → (Option Int → List PV → Prop) → PEr → Prop
def SimPO (K : PySem.W.Frag) (W : WX) (da : GE) (p : PTO) (t : TO) : Prop :=
  ∀ (B : Base) (F : Addr → Prop) (ps : List PV) (σ : St) (H : Hp) (Q : Option Int → Hp → Prop) (PQ : Option Int → List PV → Prop) (er : PEr), Rel K da B F ps σ H → p ps PQ er →
    (∀ F' H' ps' o, Rel K da B F' ps' σ H' → Stp da F ps σ H F' ps' H' → PQ o ps' → Q o H') → ErOk K W da B σ er → t σ H Q
def pNoPart : PTO := fun ps Q _ => Q none ps
def pPart (pa : PTE) : PTO := fun ps Q er => pa ps (fun r ps1 => ∃ i, r.d = .int i ∧ Q (some i) ps1) er
theorem simPO_no : SimPO K W da pNoPart tNoPart := fun B F ps σ H Q PQ er R hp post _ => post F H ps none R .refl hp
theorem simPO_some {pa : PTE} {ta : TE} (ha : SimE K W da pa ta) : SimPO K W da (pPart pa) (tPart ta) := by
  intro B F ps σ H Q PQ er R hp post he
  refine ha B F ps σ H _ _ er R hp (fun F1 H1 ps1 v x R1 S1 ok1 hp1 => ?_) he
  obtain ⟨i, e, q⟩ := hp1
  have := ok1.db R1
  rw [e] at this
  exact ⟨i, this.intE, post F1 H1 ps1 _ R1 S1 q⟩
def cutD (xs : List D) (lo hi : Option Int) : List D := (xs.drop (HT.sIx xs.length 0 lo)).take (HT.sIx xs.length xs.length hi - HT.sIx xs.length 0 lo)
theorem Dens.cut {F : Addr → Prop} {H : Hp} {xs : List V} {l : List D} (h : Dens K F H xs l) (lo hi : Option Int) : Dens K F H (cutV xs lo hi) (cutD l lo hi) := by
  unfold cutV cutD
  rw [h.length]
  exact (h.drop _).take _
def pSl (pa : PTE) (pl ph : PTO) : PTE := fun ps Q er => pa ps (fun x ps1 => pl ps1 (fun lo ps2 => ph ps2 (fun hi ps3 => live x ps3 ∧ match x.d with
  | .lst l => Q (.f (.lst (cutD l lo hi))) ps3
  | .tup l => Q (.v (.tup (cutD l lo hi))) ps3
  | _ => False) er) er) er
theorem whole_cut {xs : List D} {lo hi : Option Int} (h : HT.sIx xs.length 0 lo = 0 ∧ HT.sIx xs.length xs.length hi = xs.length) : cutD xs lo hi = xs := by
  unfold cutD
  rw [h.1, h.2]
  simp
theorem sim_sl {pa : PTE} {ta : TE} {pl ph : PTO} {tl th : TO} (ha : SimE K W da pa ta) (hl : SimPO K W da pl tl) (hh : SimPO K W da ph th) :
    SimE K W da (pSl pa pl ph) (tSl (fun x lo hi H Q => rSlL K x lo hi H Q ∨ rSlA K x lo hi H Q) ta tl th) := by
  intro B F ps σ H Q PQ er R hp post he
  refine ha B F ps σ H _ _ er R hp (fun F1 H1 ps1 v x R1 S1 ok1 hp1 => ?_) he
  refine hl B F1 ps1 σ H1 _ _ er R1 hp1 (fun F2 H2 ps2 lo R2 S2 hp2 => ?_) he
  refine hh B F2 ps2 σ H2 _ _ er R2 hp2 (fun F3 H3 ps3 hi R3 S3 hp3 => ?_) he
  obtain ⟨lv, q⟩ := hp3
  have S23 := S2.trans S3
  have ok3 := ok1.step R1 (fun a h => R.ownT (S1.own a h)) (fun a h => R.draw.fix h) S23 lv
  have db := ok3.db R3
  have S := S1.trans S23
  revert db q
  generalize x.d = d
  intro q db
  cases d <;> first | exact q.elim | skip
  · obtain ⟨a, xs, rfl, h1, h2⟩ := db
    refine .inl ⟨a, xs, rfl, .of h1, fun c hc => ?_⟩
    have E := ext_new (u := .lst (cutV xs lo hi)) R3.dom hc
    exact post _ _ ps3 _ _ (R3.ext E) (S.trans E.stp) ((new_lst R3.dom hc (h2.cut lo hi)).rv fun a h => S.there a h) q
  · rename_i l
    obtain ⟨a, xs, rfl, h1, h2⟩ := DB.tupE db
    refine .inr ⟨a, xs, rfl, h1, fun e => ?_, fun _ c hc => ?_⟩
    · rw [h2.length] at e
      replace q : PQ (.v (.tup (cutD l lo hi))) ps3 := q
      rw [whole_cut e] at q
      exact post _ _ ps3 _ (.v (.tup l)) R3 S db q
    · have E := ext_newF (u := .tup (cutV xs lo hi)) R3.dom hc
      exact post _ _ ps3 _ _ (R3.ext E) (S.trans E.stp) ((new_tup R3.dom hc (h2.cut lo hi)).rv fun a h => S.there a h) q
/-- x[::-1] -/
def oRevT : Op1 := fun d k => match d with
  | .tup l => k (.v (.tup l.reverse))
  | _ => False
def oRevL : Op1 := fun d k => match d with
  | .lst l => k (.f (.lst l.reverse))
  | _ => False
theorem simU_revT : SimU K (rRevT K) oRevT := by
  intro F H x d Q k dom dx hop post
  cases d <;> first | exact hop.elim | skip
  obtain ⟨a, xs, rfl, h1, h2⟩ := dx.tupE
  exact ⟨a, xs, rfl, h1, fun c hc => post _ _ _ _ (ext_newF dom hc) (new_tup dom hc h2.rev) hop⟩
theorem simU_revL : SimU K (fun x H1 Q => ∃ a xs, x = .ref a ∧ SqL K H1 a xs ∧ ∀ p, H1 p = none → Q (.ref p) (upd H1 p (.lst xs.reverse))) oRevL := by
  intro F H x d Q k dom dx hop post
  cases d <;> first | exact hop.elim | skip
  obtain ⟨a, xs, rfl, h1, h2⟩ := dx
  exact ⟨a, xs, rfl, .of h1, fun c hc => post _ _ _ _ (ext_new dom hc) (new_lst dom hc h2.rev) hop⟩
def oRepr : Op1 := fun d k => match d with
  | .bl b => k (.v (.str (if b then "True" else "False")))
  | .non => k (.v (.str "None"))
  | _ => False
theorem simU_repr : SimU K (r1 fun xs H Q => (∃ b, xs = [.bl b] ∧ Q (.str (if b then "True" else "False")) H) ∨ (xs = [.non] ∧ Q (.str "None") H)) oRepr := by
  intro F H x d Q k dom dx hop post
  cases d <;> first | exact hop.elim | skip
  · exact .inr ⟨by rw [dx.nonE], ret_v dom (.str _) post hop⟩
  · rename_i b
    exact .inl ⟨b, by rw [dx.blE], ret_v dom (.str _) post hop⟩

/-! ### a list of one's own is changed -/
theorem Cont.noExt {F : Addr → Prop} {H : Hp} {a : Addr} {d : D} {φ : Heap → Prop} (h : Cont K F H a d) (e : H a = some (.ext φ)) : False := by
  cases d with
  | lst ds => obtain ⟨xs, e2, r⟩ := h; rw [e] at e2; cases e2
  | dic ks vs => obtain ⟨kvs, e2, q, r⟩ := h; rw [e] at e2; cases e2
  | _ => exact h.elim
theorem Rel.write {B : Base} {F : Addr → Prop} {ps : List PV} {σ : St} {H : Hp} (R : Rel K da B F ps σ H) {i : Nat} {d d' : D} {a : Addr} {o : HO} (h1 : ps[i]? = some (.own d)) (h2 : σ[i]? = some (some (.ref a))) (c : Cont K F (upd H a o) a d') :
    Rel K da B F (ps.set i (.own d')) σ (upd H a o) ∧ Stp da F ps σ H F (ps.set i (.own d')) (upd H a o) := by
  have ow : Own ps σ a := ⟨i, d, h1, h2⟩
  have nF := R.ownF ow
  have nd := R.ownDa ow
  have n0 := R.ownNew a ow
  have at_ : ∀ b, b ≠ a → upd H a o b = H b := fun b hb => upd_ne hb
  have eqF : ∀ b, F b → upd H a o b = H b := fun b hb => at_ b fun z => nF (z ▸ hb)
  have own' : ∀ b, Own (ps.set i (.own d')) σ b → Own ps σ b := fun b ⟨j, dj, h3, h4⟩ => by
    rcases set_get h3 with ⟨e1, _, _⟩ | ⟨_, hj⟩
    · subst e1; rw [h2] at h4; cases h4; exact ow
    · exact ⟨j, dj, hj, h4⟩
  refine ⟨⟨by simp [R.len], fun j pv h => ?_, fun j k dj dk b h3 h4 h5 h6 => ?_, ⟨fun b e => ?_, fun p hp => ?_⟩, fun b u h n => ?_, R.sub, fun b h => (eqF b (R.sub b h)).trans (R.prot b h), R.fresh, fun b h => R.ownNew b (own' b h), fun b h => ?_, R.daOld⟩, ⟨fun b u h n _ => ?_, fun _ h => h, fun _ h _ => .inl h, own', fun b h => ?_⟩⟩
  · rcases set_get h with ⟨e1, e2, _⟩ | ⟨ne, hj⟩
    · subst e1 e2
      exact ⟨a, h2, nF, c⟩
    · have q := R.slot j pv hj
      cases pv with
      | no => trivial
      | val dd => obtain ⟨v, e, z⟩ := q; exact ⟨v, e, z.mono (fun _ z => z) eqF⟩
      | own dd =>
        obtain ⟨b, e, nb, cb⟩ := q
        refine ⟨b, e, nb, cb.mono (fun _ z => z) eqF (at_ b fun z => ?_)⟩
        subst z
        exact ne (R.dist j i dd d b hj h1 e h2)
  · have h3' : ∃ dd, ps[j]? = some (.own dd) := by
      rcases set_get h3 with ⟨e1, _, _⟩ | ⟨_, hj⟩
      · exact ⟨d, by rw [e1]; exact h1⟩
      · exact ⟨dj, hj⟩
    have h4' : ∃ dd, ps[k]? = some (.own dd) := by
      rcases set_get h4 with ⟨e1, _, _⟩ | ⟨_, hj⟩
      · exact ⟨d, by rw [e1]; exact h1⟩
      · exact ⟨dk, hj⟩
    obtain ⟨dj', h3'⟩ := h3'
    obtain ⟨dk', h4'⟩ := h4'
    exact R.dist j k dj' dk' b h3' h4' h5 h6
  · obtain ⟨nb, w, c, ca, cells, e1, e2, e3, e4⟩ := R.draw.1 b e
    exact ⟨nb, w, c, ca, cells, (at_ b fun z => nd.1 (by rw [← z, e])).trans e1, e2, (eqF ca e2).trans e3, e4⟩
  · obtain ⟨nb, tps, e1, e2, e3⟩ := R.draw.2 p hp
    refine ⟨nb, tps, (at_ p.1 fun z => nd.2 p hp z).trans e1, e2, fun pos cv hc => ?_⟩
    obtain ⟨c, e4, e5⟩ := e3 pos cv hc
    refine ⟨c, e4, (at_ c fun z => ?_).trans e5⟩
    obtain ⟨b, e, _, cb⟩ := R.slot i _ h1
    rw [h2] at e
    cases e
    rw [← z] at cb
    exact cb.noExt e5
  · rw [at_ b fun z => by rw [z, n0] at h; cases h]
    exact R.keep b u h n
  · rw [eqF b h]; exact R.dom b h
  · rw [at_ b fun z => n (z ▸ ow)]; exact h
  · by_cases z : b = a
    · subst z; rw [upd_same]; simp
    · rw [at_ b z]; exact h
theorem Rel.ownAt {B : Base} {F : Addr → Prop} {ps : List PV} {σ : St} {H : Hp} (R : Rel K da B F ps σ H) {i : Nat} {l : List D} (h : ps[i]? = some (.own (.lst l))) : ∃ a xs, σ[i]? = some (some (.ref a)) ∧ ¬ F a ∧ H a = some (.lst xs) ∧ Dens K F H xs l := by
  obtain ⟨a, e, nF, xs, h1, h2⟩ := R.slot i _ h
  exact ⟨a, xs, e, nF, h1, h2⟩
/-- x.append(e) -/
def pAppend (i : Nat) (pe : PTE) : PTE := fun ps Q er => (∃ l, ps[i]? = some (.own (.lst l))) ∧ pe ps (fun r ps1 => frz r ps1 fun d ps2 => ∃ l, ps2[i]? = some (.own (.lst l)) ∧ l.length < sizeLine ∧ Q (.v .non) (ps2.set i (.own (.lst (l ++ [d]))))) er
theorem upd_F {F : Addr → Prop} {H : Hp} {a : Addr} {o : HO} (nF : ¬ F a) : ∀ b, F b → upd H a o b = H b := fun b hb => upd_ne (fun (z : b = a) => nF (by rw [← z]; exact hb))
theorem Dens.mapF {F : Addr → Prop} {H : Hp} {a : Addr} {o : HO} {xs : List V} {l : List D} (nF : ¬ F a) (h : Dens K F H xs l) : Dens K F (upd H a o) xs l := h.mono (fun _ z => z) (upd_F nF)
theorem Den.mapF {F : Addr → Prop} {H : Hp} {a : Addr} {o : HO} {xs : V} {l : D} (nF : ¬ F a) (h : Den K F H xs l) : Den K F (upd H a o) xs l := h.mono (fun _ z => z) (upd_F nF)
theorem sim_append {i : Nat} {pe : PTE} {te : TE} (ha : SimE K W da pe te) : SimE K W da (pAppend i pe) (tBM K "list" rAppend (tVar i) (tCons te tNil)) := by
  intro B F ps σ H Q PQ er R hp post he
  obtain ⟨⟨l0, h0⟩, hp⟩ := hp
  obtain ⟨a, xs, e1, nF, h1, h2⟩ := R.ownAt h0
  refine ⟨.ref a, e1, .inl ⟨rfl, xs, .of h1⟩, ?_⟩
  refine ha B F ps σ H _ _ er R hp (fun F1 H1 ps1 v x R1 S1 ok1 hp1 => ?_) he
  obtain ⟨F2, ps2, R2, S2, den, l, h3, hz, q⟩ := frz_sim R S1 R1 ok1 hp1
  obtain ⟨b, ys, e2, nF2, h4, h5⟩ := R2.ownAt h3
  rw [e1] at e2
  cases e2
  obtain ⟨R3, S3⟩ := R2.write (o := .lst (ys ++ [v])) (d' := .lst (l ++ [x.d])) h3 e1 ⟨_, upd_same, (h5.mapF nF2).append (.cons (den.mapF nF2) .nil)⟩
  exact ⟨a, ys, v, rfl, rfl, h4, by rw [h5.length]; exact hz, post _ _ _ _ (.v .non) R3 (S2.trans S3) .non q⟩
/-- x.pop() -/
def pPop (i : Nat) : PTE := fun ps Q er => ∃ l d, ps[i]? = some (.own (.lst (l ++ [d]))) ∧ Q (.v d) (ps.set i (.own (.lst l)))
theorem sim_pop {i : Nat} : SimE K W da (pPop i) (tBM0 K "list" rPop (tVar i)) := by
  intro B F ps σ H Q PQ er R hp post he
  obtain ⟨l, d, h0, hp⟩ := hp
  obtain ⟨a, xs, e1, nF, h1, h2⟩ := R.ownAt h0
  have hlen := h2.length
  rw [List.length_append] at hlen
  obtain ⟨v, hv, den⟩ := h2.getD (i := xs.length - 1) (d := d) (by
    rw [hlen]; simp)
  obtain ⟨R3, S3⟩ := R.write (o := .lst xs.dropLast) (d' := .lst l) h0 e1 ⟨_, upd_same, by
    have := (h2.mapF (o := .lst xs.dropLast) nF).dropLast
    simpa using this⟩
  exact ⟨.ref a, e1, .inl ⟨rfl, xs, .of h1⟩, a, xs, v, rfl, rfl, h1, hv, post _ _ _ _ (.v d) R3 S3 (den.mapF nF) hp⟩
/-- x[k] = e -/
def pSetIx (i : Nat) (pe pk : PTE) : PTS := fun PD ps => pe ps (fun r ps1 => frz r ps1 fun d ps2 => (∃ l, ps2[i]? = some (.own (.lst l))) ∧ pk ps2 (fun kr ps3 => ∃ l k j, ps3[i]? = some (.own (.lst l)) ∧ kr.d = .int k ∧ ixN l.length k = some j ∧ PD.nx (ps3.set i (.own (.lst (l.set j d))))) PD.er) PD.er
theorem simS_setIx {i : Nat} {pe pk : PTE} {te tk : TE} (ha : SimE K W da pe te) (hk : SimE K W da pk tk) : SimS K W da (pSetIx i pe pk) (tAsg te (gSub (tVar i) tk rSetL)) := by
  intro B F ps σ H D PD R hp E
  refine ha B F ps σ H _ _ PD.er R hp (fun F1 H1 ps1 v x R1 S1 ok1 hp1 => ?_) (E.er σ)
  obtain ⟨F2, ps2, R2, S2, den, ⟨l0, h0⟩, q⟩ := frz_sim R S1 R1 ok1 hp1
  obtain ⟨a, xs, e1, nF, h1, h2⟩ := R2.ownAt h0
  refine ⟨.ref a, e1, ?_⟩
  refine hk B F2 ps2 σ H1 _ _ PD.er R2 q (fun F3 H3 ps3 u y R3 S3 ok3 q3 => ?_) (E.er σ)
  obtain ⟨l, k, j, h3, h4, h5, q⟩ := q3
  obtain ⟨b, ys, e2, nF3, h6, h7⟩ := R3.ownAt h3
  rw [e1] at e2
  cases e2
  have du := ok3.db R3
  rw [h4] at du
  have den3 := S3.den R2 den
  obtain ⟨R4, S4⟩ := R3.write (o := .lst (ys.set j v)) (d' := .lst (l.set j x.d)) h3 e1 ⟨_, upd_same, (h7.mapF nF3).set (den3.mapF nF3) j⟩
  exact ⟨a, ys, k, j, rfl, du.intE, h6, by rw [h7.length]; exact h5, E.nx _ _ σ _ R4 q⟩

/-! ### what a loop walks -/
/-- the turns of J from H on give the items -/
def WalkD (K : PySem.W.Frag) (F : Addr → Prop) (H : Hp) (J : It) (items : List D) : Prop :=
  ∃ (G : Hp → Prop) (Y : Nat → Hp → V → Hp → Prop), Walk J items.length G Y ∧ (∀ H1, (∀ a, F a → H1 a = H a) → G H1) ∧
    ∀ i H1 x H2 d, (∀ a, F a → H1 a = H a) → ∀ F1 : Addr → Prop, (∀ a, F a → F1 a) → (∀ a, F1 a → H1 a ≠ none) → Y i H1 x H2 → items[i]? = some d → ∃ F2, Ext F1 H1 F2 H2 ∧ Den K F2 H2 x d
abbrev PTI := List PV → (List D → List PV → Prop) → PEr → Prop
def SimI (K : PySem.W.Frag) (W : WX) (da : GE) (p : PTI) (t : TI) : Prop :=
  ∀ (B : Base) (F : Addr → Prop) (ps : List PV) (σ : St) (H : Hp) (R : It → Hp → Prop) (PQ : List D → List PV → Prop) (er : PEr), Rel K da B F ps σ H → p ps PQ er →
    (∀ F' H' ps' J items, Rel K da B F' ps' σ H' → Stp da F ps σ H F' ps' H' → WalkD K F' H' J items → PQ items ps' → R J H') → ErOk K W da B σ er → t σ H R
/-- over a list -/
def pIt (pa : PTE) : PTI := fun ps Q er => pa ps (fun r ps1 => frz r ps1 fun d ps2 => ∃ l, d = .lst l ∧ Q l ps2) er
def pItT (pa : PTE) : PTI := fun ps Q er => pa ps (fun r ps1 => frz r ps1 fun d ps2 => ∃ l, d = .tup l ∧ Q l ps2) er
theorem getD_of {F F1 : Addr → Prop} {H H1 : Hp} {xs : List V} {l : List D} {i : Nat} {x : V} {d : D} (h : Dens K F H xs l) (hF : ∀ a, F a → F1 a) (eq : ∀ a, F a → H1 a = H a) (e1 : xs[i]? = some x) (e2 : l[i]? = some d) : Den K F1 H1 x d := by
  obtain ⟨d', e, den⟩ := h.get e1
  rw [e] at e2
  cases e2
  exact den.mono hF eq
theorem sim_it {pa : PTE} {ta : TE} (ha : SimE K W da pa ta) : SimI K W da (pIt pa) (iList K ta) := by
  intro B F ps σ H R PQ er R0 hp post he
  refine ha B F ps σ H _ _ er R0 hp (fun F1 H1 ps1 v x R1 S1 ok1 hp1 => ?_) he
  obtain ⟨F2, ps2, R2, S2, den, l, e, q⟩ := frz_sim R0 S1 R1 ok1 hp1
  rw [e] at den
  cases den with
  | lst f h1 h2 =>
    rename_i a xs
    refine ⟨a, rfl, ⟨xs, .of h1⟩, post F2 H1 ps2 _ l R2 S2 ⟨fun H => SqL K H a xs, YAt xs, by rw [← h2.length]; exact walk_list (xs := xs), fun H1' eq => .of ((eq a f).trans h1), fun i H1' y H2' d eq F1' hF dom hY e => ?_⟩ q⟩
    obtain ⟨rfl, hx⟩ := hY
    exact ⟨F1', .refl dom, getD_of h2 hF eq hx e⟩
theorem sim_itT {pa : PTE} {ta : TE} (ha : SimE K W da pa ta) : SimI K W da (pItT pa) (iTup K ta) := by
  intro B F ps σ H R PQ er R0 hp post he
  refine ha B F ps σ H _ _ er R0 hp (fun F1 H1 ps1 v x R1 S1 ok1 hp1 => ?_) he
  obtain ⟨F2, ps2, R2, S2, den, l, e, q⟩ := frz_sim R0 S1 R1 ok1 hp1
  rw [e] at den
  cases den with
  | tup f h2 =>
    rename_i a xs
    have sq : ∀ H1', (∀ a, F2 a → H1' a = H1 a) → SqT K H1' a xs := fun H1' eq => by
      rcases f with ⟨f, h1⟩ | q
      · exact .of ((eq a f).trans h1)
      · exact .inr q
    refine ⟨a, rfl, ⟨xs, sq _ fun _ _ => rfl⟩, post F2 H1 ps2 _ l R2 S2 ⟨fun H => SqT K H a xs, YAt xs, by rw [← h2.length]; exact walk_tup (xs := xs), sq, fun i H1' y H2' d eq F1' hF dom hY e => ?_⟩ q⟩
    obtain ⟨rfl, hx⟩ := hY
    exact ⟨F1', .refl dom, getD_of h2 hF eq hx e⟩
/-- over a range -/
def rgD (lo : Int) (n : Nat) : List D := (List.range n).map fun i => D.int (lo + (i : Nat))
def pRng1 (pa : PTA) : PTI := fun ps Q er => pa ps (fun ds ps1 => ∃ j, ds = [.int j] ∧ -(2 ^ 62) ≤ j ∧ j < 2 ^ 62 ∧ Q (rgD 0 j.toNat) ps1) er
def pRng2 (pa : PTA) : PTI := fun ps Q er => pa ps (fun ds ps1 => ∃ i j, ds = [.int i, .int j] ∧ (-(2 ^ 62) ≤ i ∧ i < 2 ^ 62 ∧ -(2 ^ 62) ≤ j ∧ j < 2 ^ 62) ∧ Q (rgD i (j - i).toNat) ps1) er
theorem rgD_len (lo : Int) (n : Nat) : (rgD lo n).length = n := by unfold rgD; simp
theorem rgD_walk {F : Addr → Prop} {H : Hp} (lo : Int) (n : Nat) : WalkD K F H (Itr lo n) (rgD lo n) := by
  refine ⟨_, _, by rw [rgD_len]; exact walk_range, fun _ _ => trivial, fun i H1 x H2 d _ F1 hF dom hY e => ?_⟩
  obtain ⟨rfl, rfl⟩ := hY
  refine ⟨F1, .refl dom, ?_⟩
  unfold rgD at e
  rw [List.getElem?_map] at e
  cases q : (List.range n)[i]? with
  | none => rw [q] at e; cases e
  | some j =>
    rw [q] at e
    cases e
    have : j = i := by
      obtain ⟨h1, h2⟩ := List.getElem?_eq_some_iff.mp q
      simpa using h2.symm
    subst this
    exact .int _
theorem Dens.one {F : Addr → Prop} {H : Hp} {vs : List V} {a : D} (h : Dens K F H vs [a]) : ∃ v, vs = [v] ∧ Den K F H v a := by
  cases h with
  | cons h t => cases t; exact ⟨_, rfl, h⟩
theorem sim_rng1 {pa : PTA} {ta : TA} (ha : SimA K W da pa ta) : SimI K W da (pRng1 pa) (iRng1 ta) := by
  intro B F ps σ H R PQ er R0 hp post he
  refine ha B F ps σ H _ _ er R0 hp (fun F1 H1 ps1 vs ds R1 S1 dens hp1 => ?_) he
  obtain ⟨j, rfl, h1, h2, q⟩ := hp1
  obtain ⟨v, rfl, den⟩ := dens.one
  exact ⟨j, by rw [den.intE], h1, h2, post F1 H1 ps1 _ _ R1 S1 (rgD_walk 0 _) q⟩
theorem sim_rng2 {pa : PTA} {ta : TA} (ha : SimA K W da pa ta) : SimI K W da (pRng2 pa) (iRng2 ta) := by
  intro B F ps σ H R PQ er R0 hp post he
  refine ha B F ps σ H _ _ er R0 hp (fun F1 H1 ps1 vs ds R1 S1 dens hp1 => ?_) he
  obtain ⟨i, j, rfl, h1, q⟩ := hp1
  obtain ⟨v, w, rfl, d1, d2⟩ := dens.two
  exact ⟨i, j, by rw [d1.intE, d2.intE], h1, post F1 H1 ps1 _ _ R1 S1 (rgD_walk i _) q⟩
end
end DL

set_option maxHeartbeats 4000000
/-! DLe: enumerate of a tuple. -/
namespace PySem
theorem meets_enumerate_newT (l : Addr) (items : Array Value) :
    Meets (Builtin.«enumerate.__new__» ⟨[.type "enumerate", .ref l], []⟩) (fun _ R s => s.heap.IsTuple l items ∧
      R (.ok (.ret (.ref (s.heap.push { cls := .type "tuple_iterator", data := .fields #[.ref l, .int 0 0] }).objs.size)))
        { s with heap := (s.heap.push { cls := .type "tuple_iterator", data := .fields #[.ref l, .int 0 0] }).push { cls := .type "enumerate", data := .fields #[.none, .bool false, .ref s.heap.objs.size, rawInt 0, .none, .none] } }) :=
  .of_wp fun prog w A R s h => by
    obtain ⟨hp, g, d, tk, os⟩ := s; obtain ⟨hl, h⟩ := h
    have hsub := sub_enumerate
    have q1 : ∀ {A' : Around} {E : Value → Shared → Prop} {Q : Value → Shared → Prop}, Q (.ref hp.objs.size) ⟨hp.push { cls := .type "tuple_iterator", data := .fields #[.ref l, .int 0 0] }, g, d, tk, os⟩ → wpAny (model prog w) A' (pyIter (.ref l)) Q E ⟨hp, g, d, tk, os⟩ :=
      fun q => (begins_tuple l items).iter prog w _ _ ⟨hp, g, d, tk, os⟩ _ hl q
    wp_walk using q1
    refine wpAny_stack_any fun st => wpAny_pure ?_
    split
    · rename_i c _ _ _ _ _
      cases (c == Value.type "enumerate")
      · wp_walk using q1
        exact ⟨_, rfl, h⟩
      · wp_walk using q1
        exact ⟨_, rfl, h⟩
    · wp_walk using q1
      exact ⟨_, rfl, h⟩
section
variable {prog : Program} {w : World} {A : Around} {E : Value → Shared → Prop} {s : Shared}
theorem call_enumerate_tup {l : Addr} {items : Array Value} {Q : Value → Shared → Prop} (hL : s.heap.IsTuple l items)
    (h : ∀ h', IsEnum h' (s.heap.objs.size + 1) s.heap.objs.size 0 .none → h'.IsTupleIter s.heap.objs.size l 0 → h'.objs.size = s.heap.objs.size + 2 →
      (∀ b o, s.heap.get? b = some o → h'.get? b = some o) → Q (.ref (s.heap.objs.size + 1)) { s with heap := h' }) :
    wpAny (model prog w) A (call (.type "enumerate") [.ref l]) Q E s := by
  refine callType_new F.called_enumerate (by decide) (F.typeCall_enumerate_1 _) (F.newCall_enumerate_1 _) (fun obj => F.args_object_init_2 obj _) F.entry_enumerate_new
    (meets_enumerate_newT l items) ⟨hL, ?_⟩
  have hz : (s.heap.push { cls := .type "tuple_iterator", data := .fields #[.ref l, .int 0 0] }).objs.size = s.heap.objs.size + 1 := Heap.size_push ..
  show _ ∧ _
  rw [hz]
  have he : IsEnum ((s.heap.push { cls := .type "tuple_iterator", data := .fields #[.ref l, .int 0 0] }).push
      { cls := .type "enumerate", data := .fields #[.none, .bool false, .ref s.heap.objs.size, rawInt 0, .none, .none] }) (s.heap.objs.size + 1) s.heap.objs.size 0 .none := by
    have := Heap.get?_push_size (s.heap.push { cls := .type "tuple_iterator", data := .fields #[.ref l, .int 0 0] })
      (o := { cls := .type "enumerate", data := .fields #[.none, .bool false, .ref s.heap.objs.size, rawInt 0, .none, .none] }) rfl
    rw [hz] at this; exact this
  refine ⟨⟨_, he, rfl⟩, h _ he ⟨_, Heap.get?_push_of_some _ (Heap.get?_push_size _ rfl), rfl, rfl⟩ (by rw [Heap.size_push, hz]) fun b o x => Heap.get?_push_of_some _ (Heap.get?_push_of_some _ x)⟩
theorem wpAny_pyNext_enum_endT {e it l : Addr} {i : Nat} {items : Array Value} {old : Value} {Q : Option Value → Shared → Prop} (hh : A.handled = none)
    (he : IsEnum s.heap e it i old) (hit : s.heap.IsTupleIter it l i) (hl : s.heap.IsTuple l items) (hx : items[i]? = none)
    (hQ : ∀ h', Heap.ExtBut it s.heap h' → Q none { s with heap := h' }) : wpAny (model prog w) A (pyNext (.ref e)) Q E s := by
  have hT : s.TypeIs (.ref e) "enumerate" := ⟨_, he, rfl⟩
  unfold pyNext
  refine wpAny_bind (wpAny_attempt (wpAny_callSpecial?_slot (name := Str.ofString "__next__") hT F.slot_enumerate_next
    (wpAny_call_entry F.slot_enumerate_next hT F.entry_enumerate_next ?_ (F.args_enumerate_next_1 _))))
  show wpAny _ _ (field (.ref e) 2 >>= _) _ _ _
  refine wpAny_bind (wpAny_field he rfl (x := .ref it) rfl ?_)
  refine wpAny_bind (wpAny_nextOf_tuple_end hh hit hl hx fun h' x he' hx' => ?_)
  obtain ⟨o, ho, hc⟩ := hx'
  refine wpAny_bind (wpAny_isInstance (T := "StopIteration") (b := true) ⟨o, ho, hc⟩ isSubtype_stop ?_)
  exact wpAny_pure (hQ _ he')
end
end PySem
namespace DL
open PySem PySem.Spec PyProof.Rows L2
/-- the tuple at a, each item in a new pair -/
def Itet (K : PySem.W.Frag) (a : Addr) : It :=
  ⟨fun i H => ∃ (xs : List V) (x : V), SqT K H a xs ∧ xs[i]? = some x, fun i H v H' => ∃ T x, v = .ref T ∧ H T = none ∧ H' = upd H T (.tup [.int (i : Nat), x]) ∧ ∀ xs, SqT K H a xs → xs[i]? = some x, fun i H => ∃ xs : List V, SqT K H a xs ∧ xs.length ≤ i⟩
theorem turn_enumT {P : Program} {w : World} {K : PySem.W.Frag} {elts : List Expr} {kk : Nat} {tpos : Pos} (a e it : Addr) :
    Turn P w K (.Tuple elts kk tpos) (Itet K a) [e, it] e (fun i h => (∃ old, IsEnum h e it ((i : Nat) : Int) old) ∧ h.IsTupleIter it a i ∧ e ≠ it) where
  mem := by simp
  obj := fun i h st b hb => by
    obtain ⟨⟨old, he⟩, ⟨o, ho, hc, hd⟩, _⟩ := st
    have e' : b = e ∨ b = it := by simpa using hb
    rcases e' with z | z
    · rw [z]; exact ⟨_, he, fun v q => nomatch q⟩
    · rw [z]; exact ⟨o, ho, fun v q => by rw [hd] at q; cases q⟩
  keep := fun i h h' st k => let ⟨⟨old, he⟩, hi, hne⟩ := st; ⟨⟨old, k e (by simp) _ he⟩, hi.at fun o q => k it (by simp) o q, hne⟩
  item := by
    intro X hP hw hK hc i pins s σ H E I hf st hg
    subst hP hw hK
    obtain ⟨⟨old, he⟩, hit, hne⟩ := st
    obtain ⟨xs, x, hq, hx⟩ := hg
    obtain ⟨its, rv, p, hz⟩ := I.tuple hq
    obtain ⟨u, hu, ru⟩ := rv.get hx
    have hel : e < s.heap.objs.size := Heap.lt_size he
    have hil : it < s.heap.objs.size := by obtain ⟨_, q, _⟩ := hit; exact Heap.lt_size q
    have hie : a ≠ it := fun z => by
      obtain ⟨o1, q1, c1, _⟩ := hit
      obtain ⟨o2, q2, c2, _⟩ := p
      rw [z, q1] at q2
      cases q2
      rw [c1] at c2
      exact absurd c2 (by decide)
    have hae : a ≠ e := fun z => by
      obtain ⟨o2, q2, c2, _⟩ := p
      rw [z, he] at q2
      cases q2
      have c3 : Value.type "enumerate" = Value.type "tuple" := c2
      exact absurd c3 (by decide)
    have hlt : i < its.toArray.size := by
      obtain ⟨h1, _⟩ := List.getElem?_eq_some_iff.mp hu
      simpa using h1
    refine wpAny_pyNext_enum_itemD (PySem.Draws.tuple (A := X.A.in1) (I.ok.hd hc) it a hie its.toArray) he ⟨hit, p⟩ hlt hne (by simp [hne, Ne.symm hae]) fun y h' tk hy ho hit' hT hsz hk => ?_
    have ey : y = u := by
      rw [show its.toArray[i]? = some u from by simpa using hu] at hy
      exact (Option.some.inj hy).symm
    subst ey
    refine ⟨_, rfl, wpAny_letOwnedTupleGo_enum (s := { s with heap := h', toks := tk + 1 }) ho fun h'' he' sb => ?_⟩
    have hT2 : h''.get? s.heap.objs.size = some { cls := .type "tuple", data := .seq #[.int i tk, y] } := (sb.2 _ (Nat.ne_of_gt hel)).trans hT
    have new : ObjOk X.prog X.w (upd H s.heap.objs.size (.tup [.int (i : Nat), x])) h'' s.heap.objs.size (.tup [.int (i : Nat), x]) :=
      ⟨by show 2 ≤ sizeLine; decide, [.int i tk, y], .cons ⟨_, rfl⟩ (.cons ru .nil), ⟨_, hT2, rfl, _, rfl⟩⟩
    have I1 : Inv X pins σ (upd H s.heap.objs.size (.tup [.int (i : Nat), x])) { s with heap := h'', toks := tk + 1 } :=
      I.turnedNew (ch := [e, it]) (fun b ob hb q => (sb.2 b (fun z => hb (by simp [z]))).trans (hk b ob (fun z => hb (by simp [z])) (fun z => hb (by simp [z])) q)) hf (Nat.le_refl _) new
    refine ⟨.ref s.heap.objs.size, _, I1, rfl, ⟨_, x, rfl, I.hok.fresh (Nat.le_refl _), rfl, fun ys hy => by rw [I.tuple_inj hy hq]; exact hx⟩, ⟨⟨y, ?_⟩, hit'.1.at fun o q => (sb.2 it (Ne.symm hne)).trans q, hne⟩, fun b hb => ?_⟩
    · have e1 : ((i + 1 : Nat) : Int) = (i : Int) + 1 := by omega
      rw [e1]; exact he'
    · have hb' : b < s.heap.objs.size := by
        have e' : b = e ∨ b = it := by simpa using hb
        rcases e' with z | z
        · rw [z]; exact hel
        · rw [z]; exact hil
      rw [upd_ne (Nat.ne_of_lt hb')]
      exact (hf b hb).1
  done := by
    intro X hP hw hK hc i pins s σ H E I hf st hg
    subst hP hw hK
    obtain ⟨⟨old, he⟩, hit, hne⟩ := st
    obtain ⟨xs, hq, hx⟩ := hg
    obtain ⟨its, rv, p, hz⟩ := I.tuple hq
    obtain ⟨f0, f1, f2, f3, f4, f5⟩ := hf it (by simp)
    have hl := rv.length
    exact wpAny_pyNext_enum_endT (I.ok.hd hc) he hit p (by simp; omega) fun h' eb => ⟨rfl, I.turned (t' := s.toks) (fun b o hb q => eb b o hb q) f0 f1 f3 f4 f5⟩
  self := fun A i s Q E st h => let ⟨⟨_, he⟩, _⟩ := st; wpAny_pyIter_enum he h

def iEnumT (K : PySem.W.Frag) (ta : TA) : TI := fun σ H R => ta σ H fun vs H1 => ∃ a xs, vs = [.ref a] ∧ SqT K H1 a xs ∧ R (Itet K a) H1
/-- enumerate of a list or a tuple -/
def iEnumA (K : PySem.W.Frag) (ta : TA) : TI := fun σ H R => ta σ H fun vs H1 => (∃ a xs, vs = [.ref a] ∧ SqL K H1 a xs ∧ R (Ite K a) H1) ∨ ∃ a xs, vs = [.ref a] ∧ SqT K H1 a xs ∧ R (Itet K a) H1
theorem pi_enumA {X : Cx} {e : Expr} {ta : TA} {p pos tpos : Pos} {elts : List Expr} {kk : Nat} (hg : Gl X "enumerate") (hm : X.mg "enumerate" = none) (ha : PA X [e] ta) (hs : starEach [e] X.env = [(false, eval e X.env)] := by rfl) :
    PI X (.Tuple elts kk tpos) (.Call (.Name "enumerate" p) [e] [] pos) (iEnumA X.K ta) := by
  refine ⟨fun pins s σ H R I h => ?_⟩
  refine Call_ (ld_blt I hg hm boot_enumerate (PyProof.Rows.callWith_type1 (thn (ha.run pos pins s σ H _ I h) fun us s1 ⟨vs, H1, I1, r1, q1⟩ => ?_) hs rfl))
  have fp : ∀ {s1 : Shared} {H1 : Hp} (I1 : Inv X pins σ H1 s1), ∀ b ∈ [s1.heap.objs.size + 1, s1.heap.objs.size], FpOk X pins H1 b := fun {s1 H1} I1 b hb => by
    have e' : b = s1.heap.objs.size + 1 ∨ b = s1.heap.objs.size := by simpa using hb
    have hle : s1.heap.objs.size ≤ b := by
      rcases e' with z | z
      · rw [z]; exact Nat.le_add_right _ _
      · rw [z]; exact Nat.le_refl _
    exact I1.fpOk hle (I1.hok.fresh hle)
  rcases q1 with ⟨a, xs, ex, hq, q⟩ | ⟨a, xs, ex, hq, q⟩
  · subst ex
    cases r1 with
    | cons r rr =>
      cases rr
      cases r
      obtain ⟨its, rv, p', hz⟩ := I1.list hq
      refine call_enumerate_list p'.isList fun h' he hit hsz hk => wpAny_pyIter_enum he ?_
      have I2 : Inv X pins σ H1 { s1 with heap := h' } := I1.kept (t' := s1.toks) hk
      exact ⟨s1.heap.objs.size + 1, [s1.heap.objs.size + 1, s1.heap.objs.size], _, _, H1, rfl, I2, turn_enum a (s1.heap.objs.size + 1) s1.heap.objs.size, ⟨⟨.none, he⟩, hit, Nat.succ_ne_self _⟩, fp I1, q⟩
  · subst ex
    cases r1 with
    | cons r rr =>
      cases rr
      cases r
      obtain ⟨its, rv, p', hz⟩ := I1.tuple hq
      refine call_enumerate_tup p' fun h' he hit hsz hk => wpAny_pyIter_enum he ?_
      have I2 : Inv X pins σ H1 { s1 with heap := h' } := I1.kept (t' := s1.toks) hk
      exact ⟨s1.heap.objs.size + 1, [s1.heap.objs.size + 1, s1.heap.objs.size], _, _, H1, rfl, I2, turn_enumT a (s1.heap.objs.size + 1) s1.heap.objs.size, ⟨⟨.none, he⟩, hit, Nat.succ_ne_self _⟩, fp I1, q⟩
theorem walk_enumT {K : PySem.W.Frag} {a : Addr} {xs : List V} : Walk (Itet K a) xs.length (fun H => SqT K H a xs) (YPair (fun i => some (.int (i : Nat))) (fun i => xs[i]?)) := by
  refine ⟨fun i _ hi q => ⟨xs, xs[i], q, by simp [hi]⟩, fun _ q => ⟨xs, q, Nat.le_refl _⟩, fun i H v H' _ q y => ?_⟩
  obtain ⟨T, x, h1, h2, h3, h4⟩ := y
  exact ⟨T, .int (i : Nat), x, h1, h2, h3, rfl, h4 xs q⟩
/-- the pairs (i, x) -/
def enD (l : List D) : List D := l.zipIdx.map fun p => D.tup [.int (p.2 : Nat), p.1]
theorem enD_len (l : List D) : (enD l).length = l.length := by unfold enD; simp
theorem enD_get {l : List D} {i : Nat} {d : D} (h : (enD l)[i]? = some d) : ∃ x, l[i]? = some x ∧ d = .tup [.int (i : Nat), x] := by
  unfold enD at h
  rw [List.getElem?_map, List.getElem?_zipIdx] at h
  cases q : l[i]? with
  | none => rw [q] at h; cases h
  | some x =>
    rw [q] at h
    refine ⟨x, rfl, ?_⟩
    simpa using h.symm
section
variable {K : PySem.W.Frag} {W : WX} {da : GE}
def pEnum (pa : PTA) : PTI := fun ps Q er => pa ps (fun ds ps1 => ∃ d l, ds = [d] ∧ seqOf d = some l ∧ Q (enD l) ps1) er
theorem pair_walk {F : Addr → Prop} {H : Hp} {J : It} {xs : List V} {l : List D} {G : Hp → Prop} (h : Dens K F H xs l) (w : Walk J xs.length G (YPair (fun i => some (.int (i : Nat))) (fun i => xs[i]?))) (hG : ∀ H1, (∀ a, F a → H1 a = H a) → G H1) : WalkD K F H J (enD l) := by
  refine ⟨_, _, by rw [enD_len, ← h.length]; exact w, hG, fun i H1 x H2 d eq F1 hF dom hY e => ?_⟩
  obtain ⟨T, u, v, rfl, hT, rfl, e1, e2⟩ := hY
  cases e1
  obtain ⟨y, e3, rfl⟩ := enD_get e
  have den : Den K F1 H1 v y := getD_of h hF eq e2 e3
  exact ⟨_, ext_newF dom hT, new_tup dom hT (.cons (.int _) (.cons den .nil))⟩
theorem sim_enum {pa : PTA} {ta : TA} (ha : SimA K W da pa ta) : SimI K W da (pEnum pa) (iEnumA K ta) := by
  intro B F ps σ H R PQ er R0 hp post he
  refine ha B F ps σ H _ _ er R0 hp (fun F1 H1 ps1 vs ds R1 S1 dens hp1 => ?_) he
  obtain ⟨d, l, rfl, e, q⟩ := hp1
  obtain ⟨v, rfl, den⟩ := dens.one
  cases d with
  | lst l' =>
    cases e
    cases den with
    | lst f h1 h2 =>
      rename_i a xs
      exact .inl ⟨a, xs, rfl, .of h1, post F1 H1 ps1 _ _ R1 S1 (pair_walk h2 (walk_enum (K := K) (a := a)) fun H2 eq => .of ((eq a f).trans h1)) q⟩
  | tup l' =>
    cases e
    cases den with
    | tup f h2 =>
      rename_i a xs
      have sq : ∀ H1', (∀ a, F1 a → H1' a = H1 a) → SqT K H1' a xs := fun H1' eq => by
        rcases f with ⟨f, h1⟩ | q
        · exact .of ((eq a f).trans h1)
        · exact .inr q
      exact .inr ⟨a, xs, rfl, sq _ fun _ _ => rfl, post F1 H1 ps1 _ _ R1 S1 (pair_walk h2 (walk_enumT (K := K) (a := a)) sq) q⟩
  | _ => cases e
end
end DL

set_option maxHeartbeats 4000000
/-! DL5: targets, for, comprehensions over pure data. -/
namespace DL
open PySem PySem.Spec PyProof.Rows L2

section
variable {K : PySem.W.Frag} {W : WX} {da : GE}
/-! ### targets -/
abbrev PTG := D → List PV → (List PV → Prop) → Prop
abbrev PTGs := List D → List PV → (List PV → Prop) → Prop
def SimG (K : PySem.W.Frag) (da : GE) (p : PTG) (g : TG) : Prop :=
  ∀ (B : Base) (F : Addr → Prop) (ps : List PV) (σ : St) (H : Hp) (v : V) (d : D) (Q : St → Hp → Prop) (PQ : List PV → Prop), Rel K da B F ps σ H → Den K F H v d → p d ps PQ →
    (∀ ps' σ', Rel K da B F ps' σ' H → (∀ a, Own ps' σ' a → Own ps σ a) → PQ ps' → Q σ' H) → g v σ H Q
def SimGs (K : PySem.W.Frag) (da : GE) (p : PTGs) (g : TGs) : Prop :=
  ∀ (B : Base) (F : Addr → Prop) (ps : List PV) (σ : St) (H : Hp) (vs : List V) (ds : List D) (Q : St → Hp → Prop) (PQ : List PV → Prop), Rel K da B F ps σ H → Dens K F H vs ds → p ds ps PQ →
    (∀ ps' σ', Rel K da B F ps' σ' H → (∀ a, Own ps' σ' a → Own ps σ a) → PQ ps' → Q σ' H) → g vs σ H Q
def gN (i : Nat) : PTG := fun d ps k => k (ps.set i (.val d))
theorem own_set {ps : List PV} {σ : St} {i : Nat} {pv : PV} {w : Option V} (h : ∀ d, pv ≠ .own d) : ∀ a, Own (ps.set i pv) (σ.set i w) a → Own ps σ a := fun a ⟨j, d, h1, h2⟩ => by
  rcases set_get h1 with ⟨_, e2, _⟩ | ⟨ne, hj⟩
  · exact absurd e2.symm (h d)
  · rw [List.getElem?_set_ne (Ne.symm ne)] at h2
    exact ⟨j, d, hj, h2⟩
theorem simG_N (i : Nat) : SimG K da (gN i) (gName i) := fun B F ps σ H v d Q PQ R den hp post => post _ _ (R.setVal i den) (own_set fun _ e => by cases e) hp
def gsNil : PTGs := fun ds ps k => ds = [] ∧ k ps
def gsCons (p : PTG) (q : PTGs) : PTGs := fun ds ps k => ∃ d r, ds = d :: r ∧ p d ps fun ps1 => q r ps1 k
theorem simGs_nil : SimGs K da gsNil gNil := fun B F ps σ H vs ds Q PQ R dens hp post => by
  obtain ⟨rfl, hp⟩ := hp
  cases dens
  exact ⟨rfl, post ps σ R (fun _ h => h) hp⟩
theorem simGs_cons {p : PTG} {q : PTGs} {g : TG} {u : TGs} (h1 : SimG K da p g) (h2 : SimGs K da q u) : SimGs K da (gsCons p q) (gCons g u) := fun B F ps σ H vs ds Q PQ R dens hp post => by
  obtain ⟨d, r, rfl, hp⟩ := hp
  cases dens with
  | cons den t =>
    refine ⟨_, _, rfl, h1 B F ps σ H _ d _ _ R den hp fun ps1 σ1 R1 o1 q1 => ?_⟩
    exact h2 B F ps1 σ1 H _ r _ _ R1 t q1 fun ps2 σ2 R2 o2 q2 => post ps2 σ2 R2 (fun a h => o1 a (o2 a h)) q2
def gT (n : Nat) (q : PTGs) : PTG := fun d ps k => ∃ ds, d = .tup ds ∧ ds.length = n ∧ q ds ps k
theorem simG_T {n : Nat} {q : PTGs} {u : TGs} (h : SimGs K da q u) : SimG K da (gT n q) (gTup K n u) := fun B F ps σ H v d Q PQ R den hp post => by
  obtain ⟨ds, rfl, hn, hp⟩ := hp
  obtain ⟨a, xs, rfl, h1, h2⟩ := den.tupE
  exact ⟨a, xs, rfl, h1, by rw [h2.length]; exact hn, h B F ps σ H xs ds Q PQ R h2 hp post⟩
/-- a, b = e -/
def pAsgT (pe : PTE) (g : PTG) : PTS := fun PD ps => pe ps (fun r ps1 => frz r ps1 fun d ps2 => g d ps2 PD.nx) PD.er
theorem simS_asgT {pe : PTE} {te : TE} {p : PTG} {g : TG} (h : SimE K W da pe te) (hg : SimG K da p g) : SimS K W da (pAsgT pe p) (tAsg te g) := fun B F ps σ H D PD R hp E =>
  h B F ps σ H _ _ PD.er R hp (fun F1 H1 ps1 v r R1 S1 ok q => by
    obtain ⟨F2, ps2, R2, S2, den, q⟩ := frz_sim R S1 R1 ok q
    exact hg B F2 ps2 σ H1 v _ _ _ R2 den q fun ps3 σ3 R3 _ q3 => E.nx F2 ps3 σ3 H1 R3 q3) (E.er σ)

/-! ### for -/
def runFor (g : PTG) (b : PTS) (PD : PEnds) : List D → List PV → Prop
  | [], ps => PD.nx ps
  | d :: r, ps => g d ps fun ps1 => b { PD with nx := runFor g b PD r, ct := runFor g b PD r, bk := PD.nx } ps1
def pFor (pi : PTI) (g : PTG) (b : PTS) : PTS := fun PD ps => pi ps (fun items ps1 => runFor g b PD items ps1) PD.er
/-- what stands in F now stays -/
def Base.at (B : Base) (F : Addr → Prop) (H : Hp) : Base := { B with Fp := F, Hq := H }
theorem Rel.toAt {B : Base} {F : Addr → Prop} {ps : List PV} {σ : St} {H : Hp} (R : Rel K da B F ps σ H) : Rel K da (B.at F H) F ps σ H :=
  ⟨R.len, R.slot, R.dist, R.draw, R.keep, fun _ h => h, fun _ _ => rfl, R.fresh, R.ownNew, R.dom, R.daOld⟩
theorem Rel.ofAt {B : Base} {F F1 : Addr → Prop} {ps ps1 : List PV} {σ σ1 : St} {H H1 : Hp} (R : Rel K da (B.at F1 H1) F ps σ H) (R1 : Rel K da B F1 ps1 σ1 H1) : Rel K da B F ps σ H :=
  ⟨R.len, R.slot, R.dist, R.draw, R.keep, fun a h => R.sub a (R1.sub a h), fun a h => (R.prot a (R1.sub a h)).trans (R1.prot a h), R.fresh, R.ownNew, R.dom, R.daOld⟩
theorem EOk.atB {B : Base} {F1 : Addr → Prop} {ps1 : List PV} {σ1 : St} {H1 : Hp} {PD : PEnds} {D : Ends} (E : EOk K W da B PD D) (R1 : Rel K da B F1 ps1 σ1 H1) : EOk K W da (B.at F1 H1) PD D :=
  ⟨fun F' ps' σ' H' R => E.nx F' ps' σ' H' (R.ofAt R1), fun F' ps' σ' H' v d R => E.rt F' ps' σ' H' v d (R.ofAt R1), fun F' ps' σ' H' R => E.bk F' ps' σ' H' (R.ofAt R1), fun F' ps' σ' H' R => E.ct F' ps' σ' H' (R.ofAt R1),
    fun σ' e F' H' ps' dd R => E.er σ' e F' H' ps' dd (R.ofAt R1)⟩
theorem drop_get {α : Type} {l : List α} {i : Nat} {x : α} (h : l[i]? = some x) : l.drop i = x :: l.drop (i + 1) := by
  obtain ⟨h1, h2⟩ := List.getElem?_eq_some_iff.mp h
  rw [List.drop_eq_getElem_cons h1, h2]
theorem simS_for {pi : PTI} {wi : TI} {p : PTG} {g : TG} {b : PTS} {tb : TS} (hi : SimI K W da pi wi) (hg : SimG K da p g) (hb : SimS K W da b tb) : SimS K W da (pFor pi p b) (tFor wi g tb) := by
  intro B F ps σ H D PD R hp E
  refine hi B F ps σ H _ _ PD.er R hp (fun F1 H1 ps1 J items R1 S1 wk q => ?_) (E.er σ)
  obtain ⟨G, Y, w, hG, hY⟩ := wk
  have E1 := E.atB R1
  refine for_it w (fun i σ' H' => ∃ F' ps', Rel K da (B.at F1 H1) F' ps' σ' H' ∧ runFor p b PD (items.drop i) ps') ⟨F1, ps1, R1.toAt, q⟩ (fun i σ' H' _ ⟨F', ps', R', _⟩ => hG H' R'.prot) (fun i x σ' H' H'' hlt ⟨F', ps', R', q'⟩ y => ?_) (fun σ' H' ⟨F', ps', R', q'⟩ => ?_)
  · obtain ⟨d, hd⟩ : ∃ d, items[i]? = some d := ⟨items[i], by simp [hlt]⟩
    obtain ⟨F2, X2, den⟩ := hY i H' x H'' d R'.prot F' R'.sub R'.dom y hd
    have R2 := R'.ext X2
    rw [drop_get hd] at q'
    refine hg _ F2 ps' σ' H'' x d _ _ R2 den q' fun ps3 σ3 R3 _ q3 => ?_
    exact hb _ F2 ps3 σ3 H'' _ _ R3 q3 ⟨fun F4 ps4 σ4 H4 R4 q4 => ⟨F4, ps4, R4, q4⟩, E1.rt, E1.nx, fun F4 ps4 σ4 H4 R4 q4 => ⟨F4, ps4, R4, q4⟩, E1.er⟩
  · rw [List.drop_length] at q'
    exact E1.nx F' ps' σ' H' R' q'

/-! ### comprehensions -/
def noEr : PEr := fun _ => False
def pwipe (ps : List PV) : List Nat → List PV
  | [] => ps
  | v :: vs => (pwipe ps vs).set v .no
def runLc (g : PTG) (t : PTT) (e : PTE) (vs : List Nat) (Q : RV → List PV → Prop) : List D → List D → List PV → Prop
  | [], acc, ps => Q (.f (.lst acc)) ps
  | d :: r, acc, ps => g d ps fun ps1 => t ps1 (fun b ps2 => if b = true then e ps2 (fun rv ps3 => frz rv ps3 fun dd ps4 => acc.length < sizeLine ∧ runLc g t e vs Q r (acc ++ [dd]) (pwipe ps4 vs)) noEr else runLc g t e vs Q r acc (pwipe ps2 vs)) noEr
def pLc (pi : PTI) (g : PTG) (t : PTT) (e : PTE) (vs : List Nat) : PTE := fun ps Q er => pi ps (fun items ps1 => runLc g t e vs Q items [] (pwipe ps1 vs)) er
theorem pwipe_idem (ps : List PV) (vs : List Nat) : ∀ (i : Nat) (pv : PV), (pwipe ps vs)[i]? = some pv → i ∈ vs → pv = .no := by
  induction vs with
  | nil => intro i pv _ h; exact absurd h (by simp)
  | cons v r ih =>
    intro i pv h hi
    rcases set_get (show ((pwipe ps r).set v .no)[i]? = some pv from h) with ⟨_, e2, _⟩ | ⟨ne, hj⟩
    · exact e2
    · rcases List.mem_cons.mp hi with e | e
      · exact absurd e ne
      · exact ih i pv hj e
theorem pwipe_get (ps : List PV) (vs : List Nat) : ∀ (i : Nat), i ∉ vs → (pwipe ps vs)[i]? = ps[i]? := by
  induction vs with
  | nil => intro i _; rfl
  | cons v r ih =>
    intro i h
    have h1 : i ≠ v := fun z => h (by simp [z])
    show ((pwipe ps r).set v .no)[i]? = _
    rw [List.getElem?_set_ne (Ne.symm h1)]
    exact ih i fun z => h (by simp [z])
theorem Rel.wipe {B : Base} {F : Addr → Prop} {ps : List PV} {σ : St} {H : Hp} (R : Rel K da B F ps σ H) : ∀ vs, Rel K da B F (pwipe ps vs) (L2.wipe σ vs) H
  | [] => R
  | v :: vs => (R.wipe vs).setNo v none
theorem pwipe_len (ps : List PV) : ∀ vs, (pwipe ps vs).length = ps.length
  | [] => rfl
  | v :: vs => by show ((pwipe ps vs).set v .no).length = _; rw [List.length_set, pwipe_len ps vs]
theorem own_pwipe {ps : List PV} {σ τ : St} {vs : List Nat} (h : L2.wipe τ vs = L2.wipe σ vs) : ∀ a, Own (pwipe ps vs) σ a → Own ps τ a := fun a ⟨i, d, h1, h2⟩ => by
  have hi : i ∉ vs := fun z => by
    have := pwipe_idem ps vs i _ h1 z
    cases this
  rw [pwipe_get ps vs i hi] at h1
  have e1 := wipe_out (σ := σ) hi
  have e2 := wipe_out (σ := τ) hi
  rw [h, e1] at e2
  exact ⟨i, d, h1, by rw [← e2]; exact h2⟩
/-- other slots told where nothing is known -/
theorem Rel.unwipe {B : Base} {F : Addr → Prop} {ps : List PV} {σ τ : St} {vs : List Nat} {H : Hp} (R : Rel K da B F ps τ H) (h : L2.wipe τ vs = L2.wipe σ vs) (hl : σ.length = τ.length) : Rel K da B F (pwipe ps vs) σ H := by
  have look : ∀ (i : Nat) (pv : PV), (pwipe ps vs)[i]? = some pv → pv = .no ∨ (ps[i]? = some pv ∧ σ[i]? = τ[i]?) := fun i pv hp => by
    by_cases hi : i ∈ vs
    · exact .inl (pwipe_idem ps vs i pv hp hi)
    · rw [pwipe_get ps vs i hi] at hp
      have e1 := wipe_out (σ := σ) hi
      have e2 := wipe_out (σ := τ) hi
      rw [h, e1] at e2
      exact .inr ⟨hp, e2⟩
  have own : ∀ (i : Nat) (d : D), (pwipe ps vs)[i]? = some (.own d) → ps[i]? = some (.own d) ∧ σ[i]? = τ[i]? := fun i d hp => by
    rcases look i _ hp with e | e
    · cases e
    · exact e
  refine ⟨by rw [pwipe_len, hl]; exact R.len, fun i pv hp => ?_, fun i j di dj a h1 h2 h3 h4 => ?_, R.draw, R.keep, R.sub, R.prot, R.fresh, fun a ho => R.ownNew a (own_pwipe h a ho), R.dom, R.daOld⟩
  · rcases look i pv hp with e | ⟨e1, e2⟩
    · subst e; trivial
    · rw [e2]; exact R.slot i pv e1
  · obtain ⟨e1, e2⟩ := own i di h1
    obtain ⟨e3, e4⟩ := own j dj h2
    exact R.dist i j di dj a e1 e3 (e2 ▸ h3) (e4 ▸ h4)
theorem pwipe_twice (ps : List PV) : ∀ vs, pwipe (pwipe ps vs) vs = pwipe ps vs := fun vs => by
  refine List.ext_getElem? fun i => ?_
  by_cases hi : i ∈ vs
  · by_cases hl : i < ps.length
    · have g1 : ∃ x, (pwipe (pwipe ps vs) vs)[i]? = some x := ⟨(pwipe (pwipe ps vs) vs)[i]'(by rw [pwipe_len, pwipe_len]; exact hl), by simp [pwipe_len, hl]⟩
      have g2 : ∃ x, (pwipe ps vs)[i]? = some x := ⟨(pwipe ps vs)[i]'(by rw [pwipe_len]; exact hl), by simp [pwipe_len, hl]⟩
      obtain ⟨x, g1⟩ := g1
      obtain ⟨y, g2⟩ := g2
      rw [g1, g2, pwipe_idem _ vs i x g1 hi, pwipe_idem _ vs i y g2 hi]
    · rw [List.getElem?_eq_none (by rw [pwipe_len, pwipe_len]; omega), List.getElem?_eq_none (by rw [pwipe_len]; omega)]
  · exact pwipe_get _ vs i hi
theorem wipe_twice (σ : St) (vs : List Nat) : L2.wipe (L2.wipe σ vs) vs = L2.wipe σ vs := by
  refine List.ext_getElem? fun i => ?_
  by_cases hi : i ∈ vs
  · have h1 : ∀ τ : St, ∀ x, (L2.wipe τ vs)[i]? = some x → x = none := fun τ x hx => by
      cases x with
      | none => rfl
      | some y => exact absurd hi (wipe_some hx).2
    by_cases hl : i < σ.length
    · have g1 : ∃ x, (L2.wipe (L2.wipe σ vs) vs)[i]? = some x := ⟨(L2.wipe (L2.wipe σ vs) vs)[i]'(by rw [wipe_length, wipe_length]; exact hl), by simp [wipe_length, hl]⟩
      have g2 : ∃ x, (L2.wipe σ vs)[i]? = some x := ⟨(L2.wipe σ vs)[i]'(by rw [wipe_length]; exact hl), by simp [wipe_length, hl]⟩
      obtain ⟨x, g1⟩ := g1
      obtain ⟨y, g2⟩ := g2
      rw [g1, g2, h1 _ x g1, h1 _ y g2]
    · rw [List.getElem?_eq_none (by rw [wipe_length, wipe_length]; omega), List.getElem?_eq_none (by rw [wipe_length]; omega)]
  · exact wipe_out hi
/-- an object that nobody here leans on is written -/
theorem Rel.other {B : Base} {F : Addr → Prop} {ps : List PV} {σ : St} {H : Hp} {p : Addr} {o : HO} (R : Rel K da B F ps σ H) (nF : ¬ F p) (nO : ¬ Own ps σ p) (nd : Fix da p) (n0 : B.H0 p = none) (nx : ∀ φ, H p ≠ some (.ext φ)) : Rel K da B F ps σ (upd H p o) := by
  have eqF := upd_F (H := H) (o := o) nF
  refine ⟨R.len, fun i pv h => ?_, R.dist, ⟨fun b e => ?_, fun q hq => ?_⟩, fun b u h n => ?_, R.sub, fun b h => (eqF b (R.sub b h)).trans (R.prot b h), R.fresh, R.ownNew, fun b h => by rw [eqF b h]; exact R.dom b h, R.daOld⟩
  · have q := R.slot i pv h
    cases pv with
    | no => trivial
    | val dd => obtain ⟨v, e, z⟩ := q; exact ⟨v, e, z.mono (fun _ z => z) eqF⟩
    | own dd =>
      obtain ⟨b, e, nb, cb⟩ := q
      exact ⟨b, e, nb, cb.mono (fun _ z => z) eqF (upd_ne fun z => nO ⟨i, dd, h, by rw [← z]; exact e⟩)⟩
  · obtain ⟨nb, w, c, ca, cells, e1, e2, e3, e4⟩ := R.draw.1 b e
    exact ⟨nb, w, c, ca, cells, (upd_ne fun z => nd.1 (by rw [← z, e])).trans e1, e2, (eqF ca e2).trans e3, e4⟩
  · obtain ⟨nb, tps, e1, e2, e3⟩ := R.draw.2 q hq
    refine ⟨nb, tps, (upd_ne fun z => nd.2 q hq z).trans e1, e2, fun pos cv hc => ?_⟩
    obtain ⟨c, e4, e5⟩ := e3 pos cv hc
    exact ⟨c, e4, (upd_ne fun (z : c = p) => nx _ (by rw [← z]; exact e5)).trans e5⟩
  · rw [upd_ne fun z => by rw [z, n0] at h; cases h]
    exact R.keep b u h n
theorem StpO.upd {F F' O O' : Addr → Prop} {H H' : Hp} {p : Addr} {o : HO} (S : StpO da F O H F' O' H') (hp : H p = none) : StpO da F O H F' O' (upd H' p o) :=
  ⟨fun a u h n e => by rw [upd_ne (ne_of_none h hp)]; exact S.keep a u h n e, S.sub, S.fresh, S.own, fun a h => by
    by_cases z : a = p
    · subst z; exact absurd hp h
    · rw [upd_ne z]; exact S.there a h⟩
theorem noErOk {B : Base} {σ : St} {W : WX} : ErOk K W da B σ noEr := fun _ _ _ _ _ _ h _ => h.elim
theorem wipe_set {σ : St} {i : Nat} {x : Option V} {vs : List Nat} (h : i ∈ vs) : L2.wipe (σ.set i x) vs = L2.wipe σ vs := by
  refine List.ext_getElem? fun j => ?_
  by_cases hj : j ∈ vs
  · have h1 : ∀ τ : St, ∀ x, (L2.wipe τ vs)[j]? = some x → x = none := fun τ x hx => by
      cases x with
      | none => rfl
      | some y => exact absurd hj (wipe_some hx).2
    by_cases hl : j < σ.length
    · have g1 : ∃ y, (L2.wipe (σ.set i x) vs)[j]? = some y := ⟨(L2.wipe (σ.set i x) vs)[j]'(by rw [wipe_length, List.length_set]; exact hl), by simp [wipe_length, hl]⟩
      have g2 : ∃ y, (L2.wipe σ vs)[j]? = some y := ⟨(L2.wipe σ vs)[j]'(by rw [wipe_length]; exact hl), by simp [wipe_length, hl]⟩
      obtain ⟨y, g1⟩ := g1
      obtain ⟨z, g2⟩ := g2
      rw [g1, g2, h1 _ y g1, h1 _ z g2]
    · rw [List.getElem?_eq_none (by rw [wipe_length, List.length_set]; omega), List.getElem?_eq_none (by rw [wipe_length]; omega)]
  · rw [wipe_out hj, wipe_out hj]
    exact List.getElem?_set_ne fun (z : i = j) => hj (by rw [← z]; exact h)
/-- a target that stores in vs alone -/
def GV (g : TG) (vs : List Nat) : Prop := ∀ v (τ : St) (H : Hp) (Q : St → Hp → Prop), g v τ H (fun τ' H' => L2.wipe τ' vs = L2.wipe τ vs → Q τ' H') → g v τ H fun τ' H' => L2.wipe τ' vs = L2.wipe τ vs ∧ Q τ' H'
def GVs (g : TGs) (vs : List Nat) : Prop := ∀ v (τ : St) (H : Hp) (Q : St → Hp → Prop), g v τ H (fun τ' H' => L2.wipe τ' vs = L2.wipe τ vs → Q τ' H') → g v τ H fun τ' H' => L2.wipe τ' vs = L2.wipe τ vs ∧ Q τ' H'
theorem gv_N {i : Nat} {vs : List Nat} (h : i ∈ vs) : GV (gName i) vs := fun v τ H Q q => ⟨wipe_set h, q (wipe_set h)⟩
theorem gvs_nil {vs : List Nat} : GVs gNil vs := fun v τ H Q q => ⟨q.1, rfl, q.2 rfl⟩
theorem gvs_N {i : Nat} {u : TGs} {vs : List Nat} (h : i ∈ vs) (hu : GVs u vs) : GVs (gCons (gName i) u) vs := fun v τ H Q q => by
  obtain ⟨x, r, e, q⟩ := q
  refine ⟨x, r, e, ?_⟩
  have e1 : L2.wipe (τ.set i (some x)) vs = L2.wipe τ vs := wipe_set h
  have := hu r (τ.set i (some x)) H Q (by rw [e1]; exact q)
  rw [e1] at this
  exact this
theorem gv_T {n : Nat} {u : TGs} {vs : List Nat} (hu : GVs u vs) : GV (gTup K n u) vs := fun v τ H Q q => by
  obtain ⟨a, xs, e, h1, h2, q⟩ := q
  exact ⟨a, xs, e, h1, h2, hu xs τ H Q q⟩
theorem sim_lc {pi : PTI} {wi : TI} {p : PTG} {g : TG} {t : PTT} {tt : TT} {e : PTE} {te : TE} {vs : List Nat} {W' : WX} (hi : SimI K W da pi wi) (hg : SimG K da p g) (hv : GV g vs) (ht : SimT K W' da t tt) (hx : SimE K W' da e te) :
    SimE K W da (pLc pi p t e vs) (tLc wi g tt te vs) := by
  intro B F ps σ H Q PQ er R hp post he
  refine hi B F ps σ H _ _ er R hp (fun F1 H1 ps1 J items R1 S1 wk q => ?_) he
  intro D hD
  obtain ⟨G, Y, w, hG, hY⟩ := wk
  have nF : ∀ {F' : Addr → Prop}, (∀ a, F' a → H1 a ≠ none → F1 a ∨ Own ps1 σ a) → True := fun _ => trivial
  have hD0 : H D = none := by
    cases z : H D with
    | none => rfl
    | some o => exact absurd hD (S1.there D (by rw [z]; simp))
  have n0 : B.H0 D = none := by
    cases z : B.H0 D with
    | none => rfl
    | some o => exact absurd hD0 (R.H0T (by rw [z]; simp))
  have nd : Fix da D := R.draw.fix hD0
  -- the state between two turns
  let P : Nat → Hp → Prop := fun i H' => ∃ F' ps' acc xs, Rel K da (B.at F1 H1) F' ps' σ H' ∧ ps' = pwipe ps' vs ∧ Stp da F ps σ H F' ps' H' ∧ ¬ F' D ∧ H' D = some (.lst xs) ∧ Dens K F' H' xs acc ∧ runLc p t e vs PQ (items.drop i) acc ps'
  have nO : ∀ {F' : Addr → Prop} {ps' : List PV} {H' : Hp}, Stp da F ps σ H F' ps' H' → ¬ Own ps' σ D := fun S z => R.ownT (S.own D z) hD0
  refine lc_it w P ?_ (fun i H' _ ⟨F', ps', acc, xs, R', _⟩ => hG H' R'.prot) (fun i x H' H'' hlt ⟨F', ps', acc, xs, R', ew, S', nFD, hDx, dens, q'⟩ y => ?_) fun H' ⟨F', ps', acc, xs, R', ew, S', nFD, hDx, dens, q'⟩ => ?_
  · have Rw : Rel K da B F1 (pwipe ps1 vs) σ H1 := R1.unwipe rfl rfl
    have own : ∀ a, Own (pwipe ps1 vs) σ a → Own ps1 σ a := own_pwipe rfl
    have S2 : Stp da F ps σ H F1 (pwipe ps1 vs) H1 := ⟨S1.keep, S1.sub, S1.fresh, fun a h => S1.own a (own a h), S1.there⟩
    have nFD : ¬ F1 D := fun z => R1.dom D z hD
    have Ru : Rel K da (B.at F1 H1) F1 (pwipe ps1 vs) σ (upd H1 D (.lst [])) := Rw.toAt.other nFD (nO S2) nd n0 (fun φ z => by rw [hD] at z; cases z)
    exact ⟨F1, _, [], [], Ru, (pwipe_twice _ _).symm, S2.upd hD0, nFD, upd_same, .nil, q⟩
  · obtain ⟨d, hd⟩ : ∃ d, items[i]? = some d := ⟨items[i], by simp [hlt]⟩
    obtain ⟨F2, X2, den⟩ := hY i H' x H'' d R'.prot F' R'.sub R'.dom y hd
    have R2 := R'.ext X2
    have S2 : Stp da F ps σ H F2 ps' H'' := S'.trans X2.stp
    have nFD2 : ¬ F2 D := fun z => nFD (X2.fresh D z (by rw [hDx]; simp))
    have hDx2 := X2.keep _ _ hDx
    have dens2 : Dens K F2 H'' xs acc := dens.mono X2.sub fun a z => X2.eqF R'.dom z
    rw [drop_get hd] at q'
    have Rw : Rel K da (B.at F1 H1) F2 ps' (L2.wipe σ vs) H'' := by
      have := R2.wipe vs
      rw [← ew] at this
      exact this
    have ownW : ∀ a, Own ps' (L2.wipe σ vs) a → Own ps' σ a := fun a ⟨j, dj, h1, h2⟩ => ⟨j, dj, h1, (wipe_some h2).1⟩
    have e0 : L2.wipe (L2.wipe σ vs) vs = L2.wipe σ vs := wipe_twice σ vs
    have fin := hv x (L2.wipe σ vs) H'' (fun σ2 H2 => tt σ2 H2 fun b H3 => if b = true then te σ2 H3 fun y H4 => ∃ acc, H4 D = some (.lst acc) ∧ acc.length < sizeLine ∧ P (i + 1) (upd H4 D (.lst (acc ++ [y]))) else P (i + 1) H3) ?_
    · rw [e0] at fin
      exact fin
    rw [e0]
    refine hg _ F2 ps' _ H'' x d _ _ Rw den q' fun ps3 σ3 R3 o3 q3 w3 => ?_
    have Sb : StpO da F (Own ps σ) H F2 (Own ps3 σ3) H'' := ⟨S2.keep, S2.sub, S2.fresh, fun a h => S2.own a (ownW a (o3 a h)), S2.there⟩
    have hl3 : σ.length = σ3.length := by
      have a1 := congrArg List.length w3
      rw [wipe_length, wipe_length] at a1
      exact a1.symm
    have nOb : ¬ Own ps3 σ3 D := fun z => R.ownT (Sb.own D z) hD0
    have lift : ∀ {F4 : Addr → Prop} {ps4 : List PV} {H4 : Hp}, Rel K da (B.at F1 H1) F4 ps4 σ3 H4 → Stp da F2 ps3 σ3 H'' F4 ps4 H4 →
        Rel K da (B.at F1 H1) F4 (pwipe ps4 vs) σ H4 ∧ Stp da F ps σ H F4 (pwipe ps4 vs) H4 ∧ ¬ F4 D ∧ H4 D = some (.lst xs) := fun {F4 ps4 H4} R4 S4 => by
      have S := Sb.trans S4
      refine ⟨R4.unwipe w3 hl3, ⟨S.keep, S.sub, S.fresh, fun a h => S.own a (own_pwipe w3 a h), S.there⟩, fun z => ?_, S4.keep D _ hDx2 nOb nd⟩
      rcases S4.fresh D z (by rw [hDx2]; simp) with z | z
      · exact nFD2 z
      · exact nOb z
    refine ht _ F2 ps3 σ3 H'' _ _ _ R3 q3 (fun F4 H4 ps4 b R4 S4 q4 => ?_) noErOk
    cases b with
    | true =>
      refine hx _ F4 ps4 σ3 H4 _ _ _ R4 q4 (fun F5 H5 ps5 yv r R5 S5 ok5 q5 => ?_) noErOk
      obtain ⟨F6, ps6, R6, S6, den6, hz, q6⟩ := frz_sim R4 S5 R5 ok5 q5
      have S46 := S4.trans S6
      obtain ⟨Ra, Sa, nFa, hDa⟩ := lift R6 S46
      have dens6 := S46.dens R3 dens2
      refine ⟨xs, hDa, by rw [dens2.length]; exact hz, F6, pwipe ps6 vs, acc ++ [r.d], xs ++ [yv], Ra.other nFa (nO Sa) nd n0 (fun φ z => by rw [hDa] at z; cases z), (pwipe_twice _ _).symm, Sa.upd hD0, nFa, upd_same, (dens6.mapF nFa).append (.cons (den6.mapF nFa) .nil), q6⟩
    | false =>
      obtain ⟨Ra, Sa, nFa, hDa⟩ := lift R4 S4
      exact ⟨F4, pwipe ps4 vs, acc, xs, Ra, (pwipe_twice _ _).symm, Sa, nFa, hDa, S4.dens R3 dens2, q4⟩
  · rw [List.drop_length] at q'
    have S'' : Stp da F ps σ H F' ps' H' := S'
    exact post F' H' ps' (.ref D) (.f (.lst acc)) (R'.ofAt R1) S' ⟨D, rfl, hD0, nFD, xs, hDx, dens⟩ q'
end
end DL

set_option maxHeartbeats 4000000
/-! DL6: the rules by syntax, and a def's promise. -/
namespace DL
open PySem PySem.Spec PyProof.Rows L2

/-! ### the widest readings -/
def tOf (K : PySem.W.Frag) (W : WX) (da : GE) (p : PTE) : TE := fun σ H Q => ∃ (B : Base) (F : Addr → Prop) (ps : List PV) (PQ : RV → List PV → Prop) (er : PEr), Rel K da B F ps σ H ∧ p ps PQ er ∧
  (∀ F' H' ps' v r, Rel K da B F' ps' σ H' → Stp da F ps σ H F' ps' H' → RVOk K H F' ps' σ H' v r → PQ r ps' → Q v H') ∧ ErOk K W da B σ er
def ttOf (K : PySem.W.Frag) (W : WX) (da : GE) (p : PTT) : TT := fun σ H Q => ∃ (B : Base) (F : Addr → Prop) (ps : List PV) (PQ : Bool → List PV → Prop) (er : PEr), Rel K da B F ps σ H ∧ p ps PQ er ∧
  (∀ F' H' ps' b, Rel K da B F' ps' σ H' → Stp da F ps σ H F' ps' H' → PQ b ps' → Q b H') ∧ ErOk K W da B σ er
def tsOf (K : PySem.W.Frag) (W : WX) (da : GE) (p : PTS) : TS := fun D σ H => ∃ (B : Base) (F : Addr → Prop) (ps : List PV) (PD : PEnds), Rel K da B F ps σ H ∧ p PD ps ∧ EOk K W da B PD D
section
variable {X : Cx} {W : WX} {da : GE}
theorem sim_can {K : PySem.W.Frag} {p : PTE} : SimE K W da p (tOf K W da p) := fun B F ps σ H Q PQ er R hp post he => ⟨B, F, ps, PQ, er, R, hp, post, he⟩
theorem simT_can {K : PySem.W.Frag} {p : PTT} : SimT K W da p (ttOf K W da p) := fun B F ps σ H Q PQ er R hp post he => ⟨B, F, ps, PQ, er, R, hp, post, he⟩
theorem simS_can {K : PySem.W.Frag} {p : PTS} : SimS K W da p (tsOf K W da p) := fun B F ps σ H D PD R hp E => ⟨B, F, ps, PD, R, hp, E⟩
theorem DE.can {e : Expr} {p : PTE} (h : DE X W da e p) : PE X e (tOf X.K W da p) := by
  obtain ⟨t, h1, h2⟩ := h
  exact ⟨fun pins s σ H Q I ⟨B, F, ps, PQ, er, R, hp, post, he⟩ => h1.run pins s σ H Q I (h2 B F ps σ H Q PQ er R hp post he)⟩
theorem DT.can {e : Expr} {p : PTT} (h : DT X W da e p) : PT X e (ttOf X.K W da p) := by
  obtain ⟨t, h1, h2⟩ := h
  exact ⟨fun pins s σ H Q I ⟨B, F, ps, PQ, er, R, hp, post, he⟩ => h1.run pins s σ H Q I (h2 B F ps σ H Q PQ er R hp post he)⟩
theorem DSs.can {e : List Stmt} {p : PTS} (h : DSs X W da e p) : PSs X e (tsOf X.K W da p) := by
  obtain ⟨t, h1, h2⟩ := h
  exact ⟨fun pins s σ H D I ⟨B, F, ps, PD, R, hp, E⟩ => h1.run pins s σ H D I (h2 B F ps σ H D PD R hp E)⟩

/-! ### names, constants -/
theorem dv (i : Nat) {x : Str} {pos : Pos} (hN : X.N[i]? = some x := by rfl) (hv : Vis X.env.scope x := by first | exact Or.inl rfl | exact Or.inr (Or.inl rfl) | exact Or.inr (Or.inr rfl)) (hd : (x == ("__debug__" : Str)) = false := by decide)
    (hcd : (x == ("__classdict__" : Str)) = false := by decide) : DE X W da (.Name x pos) (pVar i) := ⟨_, pe_var hN hv hd hcd, sim_var i⟩
theorem d_int {i : Int} {j pos} : DE X W da (.Constant (.int i) j pos) (pC (.int i)) := ⟨_, pe_int, sim_c fun _ _ => .int i⟩
theorem d_bl {b : Bool} {j pos} : DE X W da (.Constant (.bool b) j pos) (pC (.bl b)) := ⟨_, pe_bl, sim_c fun _ _ => .bl b⟩
theorem d_non {j pos} : DE X W da (.Constant .none j pos) (pC .non) := ⟨_, pe_non, sim_c fun _ _ => .non⟩
theorem d_str {x : Str} {j pos} : DE X W da (.Constant (.str x) j pos) (pC (.str x)) := ⟨_, pe_str, sim_c fun _ _ => .str x⟩
theorem d_globI {x : Str} {i : Int} {pos : Pos} (hm : ∃ t, X.mg x = some (.int i t)) (hg : Gl X x := by rfl) (hd : (x == ("__debug__" : Str)) = false := by decide) : DE X W da (.Name x pos) (pC (.int i)) := by
  obtain ⟨t, hm⟩ := hm
  exact ⟨_, pe_glob (v := .int i) hg hm ⟨t, rfl⟩ hd, sim_c fun _ _ => .int i⟩
theorem d_globR {x : Str} {a : Addr} {pos : Pos} (hm : X.mg x = some (.ref a)) (hg : Gl X x := by rfl) (hd : (x == ("__debug__" : Str)) = false := by decide) : DE X W da (.Name x pos) (pC (.ref a)) :=
  ⟨_, pe_glob (v := .ref a) hg hm rfl hd, sim_c fun _ _ => .ref a⟩
theorem d_cls {x : Str} {n : String} {pos : Pos} (hm : X.mg x = none) (hv : bootBuiltins x = some (.type n)) (hg : Gl X x := by rfl) (hn : x ≠ "__name__" := by decide) (hd : (x == ("__debug__" : Str)) = false := by decide) : DE X W da (.Name x pos) (pC (.ty n)) :=
  ⟨_, pe_bltn (v := .ty n) hg hm hv rfl hn hd, sim_c fun _ _ => .ty n⟩

/-! ### operators -/
variable {a b c e : Expr} {pa pb pc : PTE} {pos : Pos}
theorem d_add (ha : DE X W da a pa) (hb : DE X W da b pb) : DE X W da (.BinOp a .Add b pos) (pBin oAdd pa pb) := by
  obtain ⟨ta, a1, a2⟩ := ha
  obtain ⟨tb, b1, b2⟩ := hb
  exact ⟨_, pe_op (op_add.or (op_cat.or op_catA)) a1 b1, sim_bin a2 b2 simO_add⟩
theorem d_mul (ha : DE X W da a pa) (hb : DE X W da b pb) : DE X W da (.BinOp a .Mult b pos) (pBin oMul pa pb) := by
  obtain ⟨ta, a1, a2⟩ := ha
  obtain ⟨tb, b1, b2⟩ := hb
  exact ⟨_, pe_op (op_mulB.or (op_rep.or op_repT)) a1 b1, sim_bin a2 b2 simO_mul⟩
theorem d_sub (ha : DE X W da a pa) (hb : DE X W da b pb) : DE X W da (.BinOp a .Sub b pos) (pBin oSub pa pb) := by
  obtain ⟨ta, a1, a2⟩ := ha
  obtain ⟨tb, b1, b2⟩ := hb
  exact ⟨_, pe_op op_sub a1 b1, sim_bin a2 b2 (simO_I0 fun _ _ => ⟨rfl, trivial⟩)⟩
theorem d_mod (ha : DE X W da a pa) (hb : DE X W da b pb) : DE X W da (.BinOp a .Mod b pos) (pBin oMod pa pb) := by
  obtain ⟨ta, a1, a2⟩ := ha
  obtain ⟨tb, b1, b2⟩ := hb
  exact ⟨_, pe_op op_modN a1 b1, sim_bin a2 b2 (simO_I fun _ _ => ⟨rfl, trivial⟩)⟩
theorem d_div (ha : DE X W da a pa) (hb : DE X W da b pb) : DE X W da (.BinOp a .FloorDiv b pos) (pBin oDiv pa pb) := by
  obtain ⟨ta, a1, a2⟩ := ha
  obtain ⟨tb, b1, b2⟩ := hb
  exact ⟨_, pe_op op_fdivB a1 b1, sim_bin a2 b2 (simO_I fun _ _ => ⟨rfl, trivial⟩)⟩
theorem d_pow (ha : DE X W da a pa) (hb : DE X W da b pb) : DE X W da (.BinOp a .Pow b pos) (pBin oPow pa pb) := by
  obtain ⟨ta, a1, a2⟩ := ha
  obtain ⟨tb, b1, b2⟩ := hb
  exact ⟨_, pe_op op_pow a1 b1, sim_bin a2 b2 (simO_I fun _ _ => ⟨rfl, trivial⟩)⟩
theorem d_neg (ha : DE X W da a pa) : DE X W da (.UnaryOp .USub a pos) (pUn oNeg pa) := by
  obtain ⟨ta, a1, a2⟩ := ha
  have h := sim_un a2 (simU_neg (K := X.K))
  exact ⟨_, pe_un un_neg a1, h⟩
/-- a comparison's rule -/
structure CmpD (X : Cx) (op : CmpOp) (o : Op2) : Prop where
  ex : ∃ r, OpR X (compareOp op) r ∧ SimOp X.K r o
theorem c_lt : CmpD X .Lt oLt := ⟨_, op_lt, simO_I0 fun _ _ => ⟨rfl, trivial⟩⟩
theorem c_le : CmpD X .LtE oLe := ⟨_, op_le, simO_I0 fun _ _ => ⟨rfl, trivial⟩⟩
theorem c_gt : CmpD X .Gt oGt := ⟨_, op_gt, simO_I0 fun _ _ => ⟨rfl, trivial⟩⟩
theorem c_ge : CmpD X .GtE oGe := ⟨_, op_ge, simO_I0 fun _ _ => ⟨rfl, trivial⟩⟩
theorem c_eq {k : Nat} (hr : Room k X.A) : CmpD X .Eq oEq := ⟨_, op_eqD hr.units, simO_eq⟩
theorem c_ne {k : Nat} (hr : Room k X.A) : CmpD X .NotEq oNe := ⟨_, op_neD hr.units, simO_ne⟩
theorem c_is : CmpD X .Is oIsN := ⟨_, op_isN, simO_isN⟩
theorem c_isnot : CmpD X .IsNot oNotN := ⟨_, op_notN, simO_notN⟩
theorem c_in : CmpD X .In (oIn false) := ⟨_, op_in_seq, simO_in false⟩
theorem c_notin : CmpD X .NotIn (oIn true) := ⟨_, op_notIn_seq, simO_in true⟩
theorem d_cmp {op : CmpOp} {o : Op2} (hc : CmpD X op o) (ha : DE X W da a pa) (hb : DE X W da b pb) (hm : behindInMarks op b = false := by first | exact nomark _ | rfl) : DE X W da (.Compare a [op] [b] pos) (pBin o pa pb) := by
  obtain ⟨r, h1, h2⟩ := hc.ex
  obtain ⟨ta, a1, a2⟩ := ha
  obtain ⟨tb, b1, b2⟩ := hb
  exact ⟨_, pe_cmpR h1 a1 b1 hm, sim_bin a2 b2 h2⟩
theorem dt_cmp {op : CmpOp} {o : Op2} (hc : CmpD X op o) (ha : DE X W da a pa) (hb : DE X W da b pb) (hm : behindInMarks op b = false := by first | exact nomark _ | rfl) : DT X W da (.Compare a [op] [b] pos) (pTest (pBin o pa pb)) := by
  obtain ⟨r, h1, h2⟩ := hc.ex
  obtain ⟨ta, a1, a2⟩ := ha
  obtain ⟨tb, b1, b2⟩ := hb
  exact ⟨_, pt_cmpR h1 a1 b1 hm, sim_test (sim_bin a2 b2 h2)⟩
def pChain (o o' : Op2) (pa pb pc : PTE) : PTE := fun ps Q er => pa ps (fun x ps1 => pb ps1 (fun y ps2 => live x ps2 ∧ o x.d y.d fun r => ∃ k, r = .v (.bl k) ∧ if k = true then pc ps2 (fun z ps3 => live y ps3 ∧ o' y.d z.d fun r => Q r ps3) er else Q (.v (.bl false)) ps2) er) er
theorem sim_chain {K : PySem.W.Frag} {r r' : R2} {o o' : Op2} {ta tb tc : TE} (so : SimOp K r o) (so' : SimOp K r' o') (ha : SimE K W da pa ta) (hb : SimE K W da pb tb) (hc : SimE K W da pc tc) : SimE K W da (pChain o o' pa pb pc) (tChain r r' ta tb tc) := by
  intro B F ps σ H Q PQ er R hp post he
  refine ha B F ps σ H _ _ er R hp (fun F1 H1 ps1 v x R1 S1 ok1 hp1 => ?_) he
  refine hb B F1 ps1 σ H1 _ _ er R1 hp1 (fun F2 H2 ps2 u y R2 S2 ok2 hp2 => ?_) he
  have ok1' := ok1.step R1 (fun a h => R.ownT (S1.own a h)) (fun a h => R.draw.fix h) S2 hp2.1
  have h12 := S1.trans S2
  refine so F2 H2 v u _ _ _ _ R2.dom (ok1'.db R2) (ok2.db R2) hp2.2 fun F3 H3 w' r' E3 rok q => ?_
  obtain ⟨k, rfl, q⟩ := q
  have R3 := R2.ext E3
  have h13 := h12.trans (E3.stp (da := da) (ps := ps2) (σ := σ))
  refine ⟨k, Den.blE rok, ?_⟩
  cases k with
  | false => exact post F3 H3 ps2 _ (.v (.bl false)) R3 h13 (Den.bl false) q
  | true =>
    have ok2' : RVOk K H1 F3 ps2 σ H3 u y := ok2.step R2 (fun a h => R1.ownT (S2.own a h)) (fun a h => R1.draw.fix h) E3.stp (by
      cases y with
      | v d => trivial
      | b i d => exact ok2.1
      | f d => trivial)
    refine hc B F3 ps2 σ H3 _ _ er R3 q (fun F4 H4 ps4 t z R4 S4 ok4 hp4 => ?_) he
    have S34 := (E3.stp (da := da) (ps := ps2) (σ := σ)).trans S4
    have ok2'' := ok2'.step R3 (fun a h => R1.ownT (S2.own a h)) (fun a h => R1.draw.fix h) S4 hp4.1
    refine so' F4 H4 u t _ _ _ _ R4.dom (ok2''.db R4) (ok4.db R4) hp4.2 fun F5 H5 w'' r'' E5 rok5 q5 => ?_
    have hh := h13.trans S4
    exact post F5 H5 ps4 w'' r'' (R4.ext E5) (hh.trans E5.stp) (rok5.rv fun a h => hh.there a h) q5
theorem d_chain {op op' : CmpOp} {o o' : Op2} (h1 : CmpD X op o) (h2 : CmpD X op' o') (ha : DE X W da a pa) (hb : DE X W da b pb) (hc : DE X W da c pc) (hm : lastMarks [op, op'] [b, c] = false := by with_unfolding_all rfl) : DE X W da (.Compare a [op, op'] [b, c] pos) (pChain o o' pa pb pc) := by
  obtain ⟨r, h3, h4⟩ := h1.ex
  obtain ⟨r', h5, h6⟩ := h2.ex
  obtain ⟨ta, a1, a2⟩ := ha
  obtain ⟨tb, b1, b2⟩ := hb
  obtain ⟨tc, c1, c2⟩ := hc
  exact ⟨_, pe_chain h3 h5 a1 b1 c1 hm, sim_chain h4 h6 a2 b2 c2⟩
theorem dt_chain {op op' : CmpOp} {o o' : Op2} (h1 : CmpD X op o) (h2 : CmpD X op' o') (ha : DE X W da a pa) (hb : DE X W da b pb) (hc : DE X W da c pc) (hm : lastMarks [op, op'] [b, c] = false := by with_unfolding_all rfl) : DT X W da (.Compare a [op, op'] [b, c] pos) (pTest (pChain o o' pa pb pc)) := by
  obtain ⟨r, h3, h4⟩ := h1.ex
  obtain ⟨r', h5, h6⟩ := h2.ex
  obtain ⟨ta, a1, a2⟩ := ha
  obtain ⟨tb, b1, b2⟩ := hb
  obtain ⟨tc, c1, c2⟩ := hc
  exact ⟨_, pt_chain h3 h5 a1 b1 c1 hm, sim_test (sim_chain h4 h6 a2 b2 c2)⟩

/-! ### and, or, not, if -/
variable {rest : List Expr} {pA pB : PTT}
theorem d_and (ha : DE X W da a pa) (hb : DE X W da (.BoolOp .And (b :: rest) pos) pb) : DE X W da (.BoolOp .And (a :: b :: rest) pos) (pAndV pa pb) := by
  obtain ⟨ta, a1, a2⟩ := ha
  obtain ⟨tb, b1, b2⟩ := hb
  exact ⟨_, pe_and a1 b1, sim_andV a2 b2⟩
theorem d_or (ha : DE X W da a pa) (hb : DE X W da (.BoolOp .Or (b :: rest) pos) pb) : DE X W da (.BoolOp .Or (a :: b :: rest) pos) (pOrV pa pb) := by
  obtain ⟨ta, a1, a2⟩ := ha
  obtain ⟨tb, b1, b2⟩ := hb
  exact ⟨_, pe_or a1 b1, sim_orV a2 b2⟩
theorem d_one {op : BoolOp} (ha : DE X W da a pa) : DE X W da (.BoolOp op [a] pos) pa := by
  obtain ⟨ta, a1, a2⟩ := ha
  exact ⟨_, pe_one a1, a2⟩
theorem d_not (ha : DE X W da a pa) : DE X W da (.UnaryOp .Not a pos) (pNotV pa) := by
  obtain ⟨ta, a1, a2⟩ := ha
  exact ⟨_, pe_not a1, sim_notV a2⟩
theorem dt_val (ha : DE X W da a pa) (he : ∀ whole, isTrue a X.env whole = (do let v ← whole; standAt a.pos; holding [v] (truthy v)) := by intro _; rfl) : DT X W da a (pTruth pa) := by
  obtain ⟨ta, a1, a2⟩ := ha
  exact ⟨_, pt_truth a1 he, sim_truth a2⟩
theorem dt_not (ha : DT X W da a pA) : DT X W da (.UnaryOp .Not a pos) (pNot pA) := by
  obtain ⟨ta, a1, a2⟩ := ha
  exact ⟨_, pt_not a1, sim_not a2⟩
theorem dw_and (ha : DT X W da a pA) (hb : DW X W da (.BoolOp .And (b :: rest) pos) pB) : DW X W da (.BoolOp .And (a :: b :: rest) pos) (pAnd pA pB) := by
  obtain ⟨ta, a1, a2⟩ := ha
  obtain ⟨tb, b1, b2⟩ := hb
  exact ⟨_, pw_and a1 b1, sim_and a2 b2⟩
theorem dw_or (ha : DT X W da a pA) (hb : DW X W da (.BoolOp .Or (b :: rest) pos) pB) : DW X W da (.BoolOp .Or (a :: b :: rest) pos) (pOr pA pB) := by
  obtain ⟨ta, a1, a2⟩ := ha
  obtain ⟨tb, b1, b2⟩ := hb
  exact ⟨_, pw_or a1 b1, sim_or a2 b2⟩
theorem dw_and1 (ha : DT X W da a pA) : DW X W da (.BoolOp .And [a] pos) pA := by
  obtain ⟨ta, a1, a2⟩ := ha
  exact ⟨_, pw_and1 a1, a2⟩
theorem dw_or1 (ha : DT X W da a pA) : DW X W da (.BoolOp .Or [a] pos) pA := by
  obtain ⟨ta, a1, a2⟩ := ha
  exact ⟨_, pw_or1 a1, a2⟩
theorem DW.dt (ha : DW X W da a pA) : DT X W da a pA := by
  obtain ⟨ta, a1, a2⟩ := ha
  exact ⟨_, a1.pt, a2⟩
theorem d_if (hc : DT X W da c pA) (ha : DE X W da a pa) (hb : DE X W da b pb) : DE X W da (.IfExp c a b pos) (pIf pA pa pb) := by
  obtain ⟨tc, c1, c2⟩ := hc
  obtain ⟨ta, a1, a2⟩ := ha
  obtain ⟨tb, b1, b2⟩ := hb
  exact ⟨_, pe_ifExp c1 a1 b1, sim_if c2 a2 b2⟩

/-! ### arguments, displays -/
variable {es : List Expr} {pr : PTA}
theorem da_nil : DA X W da [] pNil := ⟨_, pa_nil, sim_nil⟩
theorem da_cons (ha : DE X W da e pa) (hr : DA X W da es pr) (hs : starEach (e :: es) X.env = (false, eval e X.env) :: starEach es X.env := by rfl) : DA X W da (e :: es) (pCons pa pr) := by
  obtain ⟨ta, a1, a2⟩ := ha
  obtain ⟨tr, r1, r2⟩ := hr
  exact ⟨_, pa_cons a1 r1 hs, sim_cons a2 r2⟩
theorem d_tup {x1} (h : DA X W da es pr) : DE X W da (.Tuple es x1 pos) (pTup pr) := by
  obtain ⟨tr, r1, r2⟩ := h
  exact ⟨_, pe_tup r1, sim_tup r2⟩
theorem d_lst (h : DA X W da es pr) : DE X W da (.List es pos) (pLst pr) := by
  obtain ⟨tr, r1, r2⟩ := h
  exact ⟨_, pe_lst r1, sim_lst r2⟩

/-! ### built-ins -/
variable {p : Pos}
theorem d_cb1 {id : String} {x : Str} {r : List V → Hp → VK → Prop} {o : Op1} (hc : CallR X (.builtin id) r) (so : SimU X.K (r1 r) o) (hm : X.mg x = none) (hv : bootBuiltins x = some (.builtin id)) (ha : DE X W da e pa) (hg : Gl X x := by rfl) (hn : x ≠ "__name__" := by decide) (hdb : (x == ("__debug__" : Str)) = false := by decide)
    (hs : starEach [e] X.env = (false, eval e X.env) :: starEach [] X.env := by rfl) (hpl : (backTo pos (starEach [] X.env)).any (·.1) = false := by rfl) : DE X W da (.Call (.Name x p) [e] [] pos) (pUn o pa) := by
  obtain ⟨ta, a1, a2⟩ := ha
  have h := sim_un a2 so
  exact ⟨_, pe_callB hc hg hm hv (pa_cons a1 pa_nil hs) hn hdb hs hpl, h⟩
theorem d_ct1 {T : String} {x : Str} {r : List V → Hp → VK → Prop} {o : Op1} (hc : CallR X (.type T) r) (so : SimU X.K (r1 r) o) (hm : X.mg x = none) (hv : bootBuiltins x = some (.type T)) (ha : DE X W da e pa) (hg : Gl X x := by rfl) (hn : x ≠ "__name__" := by decide) (hdb : (x == ("__debug__" : Str)) = false := by decide)
    (hs : starEach [e] X.env = (false, eval e X.env) :: starEach [] X.env := by rfl) (hpl : (backTo pos (starEach [] X.env)).any (·.1) = false := by rfl) : DE X W da (.Call (.Name x p) [e] [] pos) (pUn o pa) := by
  obtain ⟨ta, a1, a2⟩ := ha
  have h := sim_un a2 so
  exact ⟨_, pe_callTy hc hg hm hv (pa_cons a1 pa_nil hs) hn hdb hs hpl, h⟩
theorem d_cb2 {id : String} {x : Str} {r : List V → Hp → VK → Prop} {o : Op2} (hc : CallR X (.builtin id) r) (so : SimOp X.K (r2 r) o) (hm : X.mg x = none) (hv : bootBuiltins x = some (.builtin id)) (ha : DE X W da a pa) (hb : DE X W da b pb) (hg : Gl X x := by rfl) (hn : x ≠ "__name__" := by decide) (hdb : (x == ("__debug__" : Str)) = false := by decide)
    (hs : starEach [a, b] X.env = (false, eval a X.env) :: starEach [b] X.env := by rfl) (hs2 : starEach [b] X.env = (false, eval b X.env) :: starEach [] X.env := by rfl) (hpl : (backTo pos (starEach [b] X.env)).any (·.1) = false := by rfl) : DE X W da (.Call (.Name x p) [a, b] [] pos) (pBin o pa pb) := by
  obtain ⟨ta, a1, a2⟩ := ha
  obtain ⟨tb, b1, b2⟩ := hb
  exact ⟨_, pe_callB hc hg hm hv (pa_cons a1 (pa_cons b1 pa_nil hs2) hs) hn hdb hs hpl, sim_bin a2 b2 so⟩
theorem d_len (hm : X.mg "len" = none) (ha : DE X W da e pa) (hg : Gl X "len" := by rfl) (hs : starEach [e] X.env = (false, eval e X.env) :: starEach [] X.env := by rfl) (hpl : (backTo pos (starEach [] X.env)).any (·.1) = false := by rfl) : DE X W da (.Call (.Name "len" p) [e] [] pos) (pUn oLen pa) := d_cb1 call_len simU_len hm (by decide +kernel) ha hg (by decide) (by decide) hs hpl
theorem d_abs (hm : X.mg "abs" = none) (ha : DE X W da e pa) (hg : Gl X "abs" := by rfl) (hs : starEach [e] X.env = (false, eval e X.env) :: starEach [] X.env := by rfl) (hpl : (backTo pos (starEach [] X.env)).any (·.1) = false := by rfl) : DE X W da (.Call (.Name "abs" p) [e] [] pos) (pUn oAbs pa) := d_cb1 call_abs simU_abs hm (by decide +kernel) ha hg (by decide) (by decide) hs hpl
theorem d_repr (hm : X.mg "repr" = none) (ha : DE X W da e pa) (hg : Gl X "repr" := by rfl) (hs : starEach [e] X.env = (false, eval e X.env) :: starEach [] X.env := by rfl) (hpl : (backTo pos (starEach [] X.env)).any (·.1) = false := by rfl) : DE X W da (.Call (.Name "repr" p) [e] [] pos) (pUn oRepr pa) := d_cb1 call_reprB simU_repr hm (by decide +kernel) ha hg (by decide) (by decide) hs hpl
theorem d_sum (hc : X.calm = true) (hm : X.mg "sum" = none) (ha : DE X W da e pa) (hg : Gl X "sum" := by rfl) (hs : starEach [e] X.env = (false, eval e X.env) :: starEach [] X.env := by rfl) (hpl : (backTo pos (starEach [] X.env)).any (·.1) = false := by rfl) : DE X W da (.Call (.Name "sum" p) [e] [] pos) (pUn oSum pa) := d_cb1 (cr_sum hc) simU_sum hm (by decide +kernel) ha hg (by decide) (by decide) hs hpl
theorem d_maxL (hc : X.calm = true) (hm : X.mg "max" = none) (ha : DE X W da e pa) (hg : Gl X "max" := by rfl) (hs : starEach [e] X.env = (false, eval e X.env) :: starEach [] X.env := by rfl) (hpl : (backTo pos (starEach [] X.env)).any (·.1) = false := by rfl) : DE X W da (.Call (.Name "max" p) [e] [] pos) (pUn oMaxL pa) := d_cb1 (cr_max hc) simU_maxL hm (by decide +kernel) ha hg (by decide) (by decide) hs hpl
theorem d_minL (hc : X.calm = true) (hm : X.mg "min" = none) (ha : DE X W da e pa) (hg : Gl X "min" := by rfl) (hs : starEach [e] X.env = (false, eval e X.env) :: starEach [] X.env := by rfl) (hpl : (backTo pos (starEach [] X.env)).any (·.1) = false := by rfl) : DE X W da (.Call (.Name "min" p) [e] [] pos) (pUn oMinL pa) := d_cb1 (cr_min hc) simU_minL hm (by decide +kernel) ha hg (by decide) (by decide) hs hpl
theorem d_all (hc : X.calm = true) (hm : X.mg "all" = none) (ha : DE X W da e pa) (hg : Gl X "all" := by rfl) (hs : starEach [e] X.env = (false, eval e X.env) :: starEach [] X.env := by rfl) (hpl : (backTo pos (starEach [] X.env)).any (·.1) = false := by rfl) : DE X W da (.Call (.Name "all" p) [e] [] pos) (pUn oAll pa) := d_cb1 (cr_all hc) simU_all hm (by decide +kernel) ha hg (by decide) (by decide) hs hpl
theorem d_any (hc : X.calm = true) (hm : X.mg "any" = none) (ha : DE X W da e pa) (hg : Gl X "any" := by rfl) (hs : starEach [e] X.env = (false, eval e X.env) :: starEach [] X.env := by rfl) (hpl : (backTo pos (starEach [] X.env)).any (·.1) = false := by rfl) : DE X W da (.Call (.Name "any" p) [e] [] pos) (pUn oAny pa) := d_cb1 (cr_any hc) simU_any hm (by decide +kernel) ha hg (by decide) (by decide) hs hpl
theorem d_sorted (hm : X.mg "sorted" = none) (ha : DE X W da e pa) (hg : Gl X "sorted" := by rfl) (hs : starEach [e] X.env = (false, eval e X.env) :: starEach [] X.env := by rfl) (hpl : (backTo pos (starEach [] X.env)).any (·.1) = false := by rfl) : DE X W da (.Call (.Name "sorted" p) [e] [] pos) (pUn oSorted pa) := d_cb1 cr_sortedI simU_sorted hm (by decide +kernel) ha hg (by decide) (by decide) hs hpl
theorem d_toInt (hm : X.mg "int" = none) (ha : DE X W da e pa) (hg : Gl X "int" := by rfl) (hs : starEach [e] X.env = (false, eval e X.env) :: starEach [] X.env := by rfl) (hpl : (backTo pos (starEach [] X.env)).any (·.1) = false := by rfl) : DE X W da (.Call (.Name "int" p) [e] [] pos) (pUn oInt pa) := d_ct1 call_int1 simU_int hm (by decide +kernel) ha hg (by decide) (by decide) hs hpl
theorem d_tuple (hm : X.mg "tuple" = none) (ha : DE X W da e pa) (hg : Gl X "tuple" := by rfl) (hs : starEach [e] X.env = (false, eval e X.env) :: starEach [] X.env := by rfl) (hpl : (backTo pos (starEach [] X.env)).any (·.1) = false := by rfl) : DE X W da (.Call (.Name "tuple" p) [e] [] pos) (pUn oTuple pa) := d_ct1 call_tuple_of simU_tuple hm (by decide +kernel) ha hg (by decide) (by decide) hs hpl
theorem d_list (hm : X.mg "list" = none) (ha : DE X W da e pa) (hg : Gl X "list" := by rfl) (hs : starEach [e] X.env = (false, eval e X.env) :: starEach [] X.env := by rfl) (hpl : (backTo pos (starEach [] X.env)).any (·.1) = false := by rfl) : DE X W da (.Call (.Name "list" p) [e] [] pos) (pUn oList pa) := d_ct1 call_list_of simU_list hm (by decide +kernel) ha hg (by decide) (by decide) hs hpl
theorem d_max2 (hc : X.calm = true) (hm : X.mg "max" = none) (ha : DE X W da a pa) (hb : DE X W da b pb) (hg : Gl X "max" := by rfl)
    (hs : starEach [a, b] X.env = (false, eval a X.env) :: starEach [b] X.env := by rfl) (hs2 : starEach [b] X.env = (false, eval b X.env) :: starEach [] X.env := by rfl) (hpl : (backTo pos (starEach [b] X.env)).any (·.1) = false := by rfl) : DE X W da (.Call (.Name "max" p) [a, b] [] pos) (pBin oMax2 pa pb) := d_cb2 (call_max2 hc) simO_max2 hm (by decide +kernel) ha hb hg (by decide) (by decide) hs hs2 hpl
theorem d_min2 (hc : X.calm = true) (hm : X.mg "min" = none) (ha : DE X W da a pa) (hb : DE X W da b pb) (hg : Gl X "min" := by rfl)
    (hs : starEach [a, b] X.env = (false, eval a X.env) :: starEach [b] X.env := by rfl) (hs2 : starEach [b] X.env = (false, eval b X.env) :: starEach [] X.env := by rfl) (hpl : (backTo pos (starEach [b] X.env)).any (·.1) = false := by rfl) : DE X W da (.Call (.Name "min" p) [a, b] [] pos) (pBin oMin2 pa pb) := d_cb2 (call_min2 hc) simO_min2 hm (by decide +kernel) ha hb hg (by decide) (by decide) hs hs2 hpl
theorem d_isi (hm : X.mg "isinstance" = none) (ha : DE X W da a pa) (hb : DE X W da b pb) (hg : Gl X "isinstance" := by rfl)
    (hs : starEach [a, b] X.env = (false, eval a X.env) :: starEach [b] X.env := by rfl) (hs2 : starEach [b] X.env = (false, eval b X.env) :: starEach [] X.env := by rfl) (hpl : (backTo pos (starEach [b] X.env)).any (·.1) = false := by rfl) : DE X W da (.Call (.Name "isinstance" p) [a, b] [] pos) (pBin oIsi pa pb) := d_cb2 call_isi simO_isi hm (by decide +kernel) ha hb hg (by decide) (by decide) hs hs2 hpl

/-! ### places, slices, methods -/
theorem d_ix (ha : DE X W da a pa) (hb : DE X W da b pb) (hs : PlainIx b := by exact fun _ _ => rfl) : DE X W da (.Subscript a b pos) (pBin oIx pa pb) := by
  obtain ⟨ta, a1, a2⟩ := ha
  obtain ⟨tb, b1, b2⟩ := hb
  exact ⟨_, pe_ix (ix_list.or ix_tup) a1 b1 hs, sim_bin a2 b2 simO_ix⟩
def DPO (X : Cx) (W : WX) (da : GE) (e : Option Expr) (p : PTO) : Prop := ∃ t, PO X e t ∧ SimPO X.K W da p t
theorem dp_no : DPO X W da none pNoPart := ⟨_, po_none, simPO_no⟩
theorem dp_some (ha : DE X W da a pa) : DPO X W da (some a) (pPart pa) := by
  obtain ⟨ta, a1, a2⟩ := ha
  exact ⟨_, po_some a1, simPO_some a2⟩
theorem d_sl {lo hi : Option Expr} {pl ph : PTO} {p2 : Pos} (ha : DE X W da a pa) (hl : DPO X W da lo pl) (hh : DPO X W da hi ph) : DE X W da (.Subscript a (.Slice lo hi none p2) pos) (pSl pa pl ph) := by
  obtain ⟨ta, a1, a2⟩ := ha
  obtain ⟨tl, l1, l2⟩ := hl
  obtain ⟨th, h1, h2⟩ := hh
  exact ⟨_, pe_slice (sl_list.or sl_tupA) a1 l1 h1, sim_sl a2 l2 h2⟩
theorem d_revT {k : Nat} {p1 p2 p3 : Pos} (ha : DE X W da a pa) : DE X W da (.Subscript a (.Slice none none (some (.UnaryOp .USub (.Constant (.int 1) k p1) p2)) p3) pos) (pUn oRevT pa) := by
  obtain ⟨ta, a1, a2⟩ := ha
  exact ⟨_, pe_revT a1, sim_un a2 simU_revT⟩
theorem d_revL {k : Nat} {p1 p2 p3 : Pos} (ha : DE X W da a pa) : DE X W da (.Subscript a (.Slice none none (some (.UnaryOp .USub (.Constant (.int 1) k p1) p2)) p3) pos) (pUn oRevL pa) := by
  obtain ⟨ta, a1, a2⟩ := ha
  have h := sim_un a2 (simU_revL (K := X.K))
  exact ⟨_, pe_revL a1, h⟩
variable {apos cpos : Pos}
theorem d_append (i : Nat) {x : Str} {xp : Pos} (he : DE X W da e pa) (hN : X.N[i]? = some x := by rfl) (hv : Vis X.env.scope x := by first | exact Or.inl rfl | exact Or.inr (Or.inl rfl) | exact Or.inr (Or.inr rfl)) (hd : (x == ("__debug__" : Str)) = false := by decide) (hcd : (x == ("__classdict__" : Str)) = false := by decide)
    (hs : starEach [e] X.env = (false, eval e X.env) :: starEach [] X.env := by rfl)
    (hbase : attributeBase (.Name x xp) "append" X.env (eval (.Name x xp) X.env) = eval (.Name x xp) X.env := by rfl)
    (hfew : ((backTo cpos (starEach [e] X.env)).all (fun x => !x.1) && (backToKw cpos (keywordEach [] X.env)).all (fun x => x.1.isSome)
      && decide (([e] : List Expr).length + ([] : List Keyword).length + (if ([] : List Keyword).isEmpty then 0 else 1) < 30)) = true := by rfl)
    (hline : (apos.endLine == cpos.line) = true := by rfl) (hplain : (backTo cpos (starEach [] X.env)).any (·.1) = false := by rfl) :
    DE X W da (.Call (.Attribute (.Name x xp) "append" apos) [e] [] cpos) (pAppend i pa) := by
  obtain ⟨ta, a1, a2⟩ := he
  exact ⟨_, pe_bm PySem.F.plainAttrs_list PySem.F.slot_list_append PySem.F.type_list_append mt_append (pe_var hN hv hd hcd) (pa_cons a1 pa_nil hs) hbase hfew hline hs hplain, sim_append a2⟩
theorem d_pop (i : Nat) {x : Str} {xp : Pos} (hN : X.N[i]? = some x := by rfl) (hv : Vis X.env.scope x := by first | exact Or.inl rfl | exact Or.inr (Or.inl rfl) | exact Or.inr (Or.inr rfl)) (hd : (x == ("__debug__" : Str)) = false := by decide) (hcd : (x == ("__classdict__" : Str)) = false := by decide)
    (hbase : attributeBase (.Name x xp) "pop" X.env (eval (.Name x xp) X.env) = eval (.Name x xp) X.env := by rfl) (hline : (apos.endLine == cpos.line) = true := by rfl) :
    DE X W da (.Call (.Attribute (.Name x xp) "pop" apos) [] [] cpos) (pPop i) := 
  ⟨_, pe_bm0 PySem.F.plainAttrs_list PySem.F.slot_list_pop PySem.F.type_list_pop mt_pop (pe_var hN hv hd hcd) hbase hline, sim_pop⟩

/-! ### a comprehension -/
def DI (X : Cx) (W : WX) (da : GE) (tg e : Expr) (p : PTI) : Prop := ∃ t, PI X tg e t ∧ SimI X.K W da p t
def DG (X : Cx) (da : GE) (e : Expr) (p : PTG) (g : TG) : Prop := PG X e g ∧ SimG X.K da p g
variable {tg : Expr}
theorem di_list (ha : DE X W da a pa) : DI X W da tg a (pIt pa) := by
  obtain ⟨ta, a1, a2⟩ := ha
  exact ⟨_, pi_list a1, sim_it a2⟩
theorem di_tup (ha : DE X W da a pa) : DI X W da tg a (pItT pa) := by
  obtain ⟨ta, a1, a2⟩ := ha
  exact ⟨_, pi_tup a1, sim_itT a2⟩
theorem di_rng1 (hm : X.mg "range" = none) (ha : DA X W da [a] pr) (hg : Gl X "range" := by rfl) (hs : starEach [a] X.env = [(false, eval a X.env)] := by rfl) : DI X W da tg (.Call (.Name "range" p) [a] [] pos) (pRng1 pr) := by
  obtain ⟨ta, a1, a2⟩ := ha
  exact ⟨_, pi_range1 hg hm a1 hs, sim_rng1 a2⟩
theorem di_rng2 (hm : X.mg "range" = none) (ha : DA X W da [a, b] pr) (hg : Gl X "range" := by rfl) (hs : starEach [a, b] X.env = [(false, eval a X.env), (false, eval b X.env)] := by rfl) (hs2 : starEach [b] X.env = [(false, eval b X.env)] := by rfl) : DI X W da tg (.Call (.Name "range" p) [a, b] [] pos) (pRng2 pr) := by
  obtain ⟨ta, a1, a2⟩ := ha
  exact ⟨_, pi_range2 hg hm a1 hs hs2, sim_rng2 a2⟩
theorem di_enum {elts : List Expr} {kk : Nat} {tpos : Pos} (hm : X.mg "enumerate" = none) (ha : DA X W da [a] pr) (hg : Gl X "enumerate" := by rfl) (hs : starEach [a] X.env = [(false, eval a X.env)] := by rfl) : DI X W da (.Tuple elts kk tpos) (.Call (.Name "enumerate" p) [a] [] pos) (pEnum pr) := by
  obtain ⟨ta, a1, a2⟩ := ha
  exact ⟨_, pi_enumA hg hm a1 hs, sim_enum a2⟩
theorem dg_name (i : Nat) {x : Str} (hN : X.N.Nodup) (hi : X.N[i]? = some x := by rfl) (hx : Loc X.env.scope x := by first | exact Or.inl rfl | exact Or.inr rfl) (hf : X.fn x = true ∨ X.env.scope.names.lookup x = some .local := by first | exact .inl rfl | exact .inr rfl | assumption) : DG X da (.Name x pos) (gN i) (gName i) := ⟨pg_name hN hi hx hf, simG_N i⟩
def DGs (X : Cx) (da : GE) (es : List Expr) (p : PTGs) (g : TGs) : Prop := PGs X es g ∧ SimGs X.K da p g
theorem dgs_nil : DGs X da [] gsNil gNil := ⟨pgs_nil, simGs_nil⟩
theorem dgs_cons {q : PTG} {qs : PTGs} {g : TG} {gs : TGs} (h : DG X da e q g) (hr : DGs X da es qs gs) (hs : (assignEach (e :: es) X.env).map (·.2) = assign e X.env :: (assignEach es X.env).map (·.2) := by rfl) : DGs X da (e :: es) (gsCons q qs) (gCons g gs) := ⟨pgs_cons h.1 hr.1 hs, simGs_cons h.2 hr.2⟩
theorem dg_tup {k : Nat} {qs : PTGs} {gs : TGs} {n : Nat} (hc : X.calm = true) (h : DGs X da es qs gs) (hn : (assignEach es X.env).length = n := by rfl) (hst : (assignEach es X.env).findIdx? (·.1) = none := by rfl) : DG X da (.Tuple es k pos) (gT n qs) (gTup X.K n gs) := ⟨pg_tup hc h.1 hn hst, simG_T h.2⟩
abbrev W0 : WX := fun _ _ _ _ => False
def pYes : PTT := fun ps Q _ => Q true ps
theorem d_lc {elt iter : Expr} {scope : Scope} {own : List (Str × Nat)} {q : PTI} {pg : PTG} {g : TG} (hc : X.calm = true) (hN : X.N.Nodup) (hi : DI X W da tg iter q) {N : List Str} {sc : Scope} (ok : blkC N sc scope own = true)
    (hg : ∀ (s : Shared) (H : Hp) (C : Addr) (cl : List (Str × Addr)) (fp : List Addr), DG (X.blk s H scope (compEnvC scope cl C X.env) fp) da tg pg g) (hv : GV g (own.map (·.2)))
    (he : ∀ (s : Shared) (H : Hp) (C : Addr) (cl : List (Str × Addr)) (fp : List Addr), DE (X.blk s H scope (compEnvC scope cl C X.env) fp) W0 da elt pa) (hs : ∀ x, foldedSetIterable iter X.env x = pure x := by intro _; rfl) (eN : X.N = N := by rfl) (es : X.env.scope = sc := by rfl) :
    DE X W da (.ListComp elt [⟨tg, iter, [], 0⟩] scope pos) (pLc q pg pYes pa (own.map (·.2))) := by
  obtain ⟨ti, i1, i2⟩ := hi
  refine ⟨_, pe_lc hc hN i1 (blkOk_by (by rw [eN, es]; exact ok)) (fun s H C cl fp => (hg s H C cl fp).1) (fun s H C cl fp => pts_nil) (fun s H C cl fp => (he s H C cl fp).can) hs, sim_lc i2 (hg X.s_0 X.H_0 0 [] []).2 hv ?_ sim_can⟩
  intro B F ps σ H Q PQ er R hp post _
  exact post F H ps true R .refl hp
theorem d_lcIf {elt iter cond : Expr} {scope : Scope} {own : List (Str × Nat)} {q : PTI} {pg : PTG} {g : TG} (hc : X.calm = true) (hN : X.N.Nodup) (hi : DI X W da tg iter q) {N : List Str} {sc : Scope} (ok : blkC N sc scope own = true)
    (hg : ∀ (s : Shared) (H : Hp) (C : Addr) (cl : List (Str × Addr)) (fp : List Addr), DG (X.blk s H scope (compEnvC scope cl C X.env) fp) da tg pg g) (hv : GV g (own.map (·.2)))
    (ht : ∀ (s : Shared) (H : Hp) (C : Addr) (cl : List (Str × Addr)) (fp : List Addr), DT (X.blk s H scope (compEnvC scope cl C X.env) fp) W0 da cond pA)
    (he : ∀ (s : Shared) (H : Hp) (C : Addr) (cl : List (Str × Addr)) (fp : List Addr), DE (X.blk s H scope (compEnvC scope cl C X.env) fp) W0 da elt pa) (hs : ∀ x, foldedSetIterable iter X.env x = pure x := by intro _; rfl) (eN : X.N = N := by rfl) (es : X.env.scope = sc := by rfl) :
    DE X W da (.ListComp elt [⟨tg, iter, [cond], 0⟩] scope pos) (pLc q pg pA pa (own.map (·.2))) := by
  obtain ⟨ti, i1, i2⟩ := hi
  exact ⟨_, pe_lc hc hN i1 (blkOk_by (by rw [eN, es]; exact ok)) (fun s H C cl fp => (hg s H C cl fp).1) (fun s H C cl fp => pts_one (ht s H C cl fp).can) (fun s H C cl fp => (he s H C cl fp).can) hs, sim_lc i2 (hg X.s_0 X.H_0 0 [] []).2 hv simT_can sim_can⟩
end
end DL

set_option maxHeartbeats 4000000
/-! DL7: statements by syntax; calls of defs; a def's promise from its body. -/
namespace DL
open PySem PySem.Spec PyProof.Rows L2

section
variable {X : Cx} {W : WX} {da : GE} {st : Stmt} {rest : List Stmt} {p q : PTS} {a b c e : Expr} {pa pb : PTE} {pA : PTT} {pos : Pos} {es : List Expr} {pr : PTA}
theorem dss_nil : DSs X W da [] pNext := ⟨_, pss_nil, simS_next⟩
theorem dss_cons (h : DS X W da st p) (h2 : DSs X W da rest q) : DSs X W da (st :: rest) (pSeq p q) := by
  obtain ⟨t, a1, a2⟩ := h
  obtain ⟨u, b1, b2⟩ := h2
  exact ⟨_, pss_cons a1 b1, simS_seq a2 b2⟩
theorem dss_one (h : DS X W da st p) : DSs X W da [st] p := by
  obtain ⟨t, a1, a2⟩ := h
  exact ⟨_, pss_one a1, a2⟩
theorem ds_pass : DS X W da (.Pass pos) pNext := ⟨_, ps_pass, simS_next⟩
theorem ds_break : DS X W da (.Break pos) pBreak := ⟨_, ps_break, simS_brk⟩
theorem ds_continue : DS X W da (.Continue pos) pCont := ⟨_, ps_continue, simS_ct⟩
theorem ds_never : DS X W da st pNever := ⟨_, ps_never, simS_never⟩
theorem dss_never {sts : List Stmt} : DSs X W da sts pNever := ⟨_, pss_never, simS_never⟩
theorem ds_expr (he : DE X W da e pa) (hs : swapsWith e none pos.line X.env = pure false := by rfl) : DS X W da (.Expr e pos) (pDrop pa) := by
  obtain ⟨t, a1, a2⟩ := he
  exact ⟨_, ps_expr a1 hs, simS_drop a2⟩
theorem ds_ret (he : DE X W da e pa) : DS X W da (.Return (some e) pos) (pRet pa) := by
  obtain ⟨t, a1, a2⟩ := he
  exact ⟨_, ps_ret a1, simS_ret a2⟩
theorem ds_retN : DS X W da (.Return none pos) pRetN := ⟨_, ps_retN, simS_retN⟩
theorem ds_if {x y : List Stmt} (hc : DT X W da c pA) (h1 : DSs X W da x p) (h2 : DSs X W da y q) : DS X W da (.If c x y pos) (pIfS pA p q) := by
  obtain ⟨tc, c1, c2⟩ := hc
  obtain ⟨t, a1, a2⟩ := h1
  obtain ⟨u, b1, b2⟩ := h2
  exact ⟨_, ps_if c1 a1 b1, simS_if c2 a2 b2⟩
theorem ds_set (i : Nat) {x : Str} {pos' : Pos} (hN : X.N.Nodup) (he : DE X W da e pa) (hi : X.N[i]? = some x := by rfl) (hx : Loc X.env.scope x := by first | exact Or.inl rfl | exact Or.inr rfl) (hs : swapsWith e (some (.Name x pos')) pos.line X.env = pure false := by rfl)
    (hf : X.fn x = true ∨ X.env.scope.names.lookup x = some .local := by first | exact .inl rfl | exact .inr rfl | assumption) : DS X W da (.Assign [.Name x pos'] e pos) (pSet i pa) := by
  obtain ⟨t, a1, a2⟩ := he
  exact ⟨_, ps_set hN hi hx a1 hs hf, simS_set a2⟩
theorem ds_setLc (i : Nat) {y : Str} {py : Pos} {elt tg iter : Expr} {scope : Scope} {own : List (Str × Nat)} {q : PTI} {pg : PTG} {g : TG} {spos : Pos} (hc : X.calm = true) (hN : X.N.Nodup) (hi : DI X W da tg iter q) {N : List Str} {sc : Scope} (ok : blkC N sc scope own = true)
    (hg : ∀ (s : Shared) (H : Hp) (C : Addr) (cl : List (Str × Addr)) (fp : List Addr), DG (X.blk s H scope (compEnvC scope cl C X.env) fp) da tg pg g) (hv : GV g (own.map (·.2)))
    (he : ∀ (s : Shared) (H : Hp) (C : Addr) (cl : List (Str × Addr)) (fp : List Addr), DE (X.blk s H scope (compEnvC scope cl C X.env) fp) W0 da elt pa)
    (hsw : swapsWith (.ListComp elt [⟨tg, iter, [], 0⟩] scope pos) (some (.Name y py)) spos.line X.env = pure true) (hs : ∀ x, foldedSetIterable iter X.env x = pure x := by intro _; rfl) (eN : X.N = N := by rfl) (es : X.env.scope = sc := by rfl)
    (hy : X.N[i]? = some y := by rfl) (hyl : X.env.scope.names.lookup y = some .local := by rfl) :
    DS X W da (.Assign [.Name y py] (.ListComp elt [⟨tg, iter, [], 0⟩] scope pos) spos) (pSet i (pLc q pg pYes pa (own.map (·.2)))) := by
  obtain ⟨ti, i1, i2⟩ := hi
  refine ⟨_, ps_setLc hc hN hy hyl hsw i1 (blkOk_by (by rw [eN, es]; exact ok)) (fun s H C cl fp => (hg s H C cl fp).1) (fun s H C cl fp => pts_nil) (fun s H C cl fp => (he s H C cl fp).can) hs, simS_set (sim_lc i2 (hg X.s_0 X.H_0 0 [] []).2 hv ?_ sim_can)⟩
  intro B F ps σ H Q PQ er R hp post _
  exact post F H ps true R .refl hp
theorem ds_setLcIf (i : Nat) {y : Str} {py : Pos} {elt tg iter cond : Expr} {scope : Scope} {own : List (Str × Nat)} {q : PTI} {pg : PTG} {g : TG} {spos : Pos} (hc : X.calm = true) (hN : X.N.Nodup) (hi : DI X W da tg iter q) {N : List Str} {sc : Scope} (ok : blkC N sc scope own = true)
    (hg : ∀ (s : Shared) (H : Hp) (C : Addr) (cl : List (Str × Addr)) (fp : List Addr), DG (X.blk s H scope (compEnvC scope cl C X.env) fp) da tg pg g) (hv : GV g (own.map (·.2)))
    (ht : ∀ (s : Shared) (H : Hp) (C : Addr) (cl : List (Str × Addr)) (fp : List Addr), DT (X.blk s H scope (compEnvC scope cl C X.env) fp) W0 da cond pA)
    (he : ∀ (s : Shared) (H : Hp) (C : Addr) (cl : List (Str × Addr)) (fp : List Addr), DE (X.blk s H scope (compEnvC scope cl C X.env) fp) W0 da elt pa)
    (hsw : swapsWith (.ListComp elt [⟨tg, iter, [cond], 0⟩] scope pos) (some (.Name y py)) spos.line X.env = pure true) (hs : ∀ x, foldedSetIterable iter X.env x = pure x := by intro _; rfl) (eN : X.N = N := by rfl) (es : X.env.scope = sc := by rfl)
    (hy : X.N[i]? = some y := by rfl) (hyl : X.env.scope.names.lookup y = some .local := by rfl) :
    DS X W da (.Assign [.Name y py] (.ListComp elt [⟨tg, iter, [cond], 0⟩] scope pos) spos) (pSet i (pLc q pg pA pa (own.map (·.2)))) := by
  obtain ⟨ti, i1, i2⟩ := hi
  exact ⟨_, ps_setLc hc hN hy hyl hsw i1 (blkOk_by (by rw [eN, es]; exact ok)) (fun s H C cl fp => (hg s H C cl fp).1) (fun s H C cl fp => pts_one (ht s H C cl fp).can) (fun s H C cl fp => (he s H C cl fp).can) hs, simS_set (sim_lc i2 (hg X.s_0 X.H_0 0 [] []).2 hv simT_can sim_can)⟩
theorem ds_setIx (i : Nat) {x : Str} {xp ap : Pos} (he : DE X W da e pa) (hk : DE X W da b pb) (hN : X.N[i]? = some x := by rfl) (hv : Vis X.env.scope x := by first | exact Or.inl rfl | exact Or.inr (Or.inl rfl) | exact Or.inr (Or.inr rfl)) (hd : (x == ("__debug__" : Str)) = false := by decide) (hcd : (x == ("__classdict__" : Str)) = false := by decide)
    (hs : swapsWithSole [.Subscript (.Name x xp) b ap] e pos.line X.env = pure false := by rfl) (hw : swappedStores [.Subscript (.Name x xp) b ap] e X.env = pure none := by rfl)
    (h1 : (assignEach [.Subscript (.Name x xp) b ap] X.env).map (·.2) = [assign (.Subscript (.Name x xp) b ap) X.env] := by rfl)
    (ha : ∀ v, assign (.Subscript (.Name x xp) b ap) X.env v = (do
      let ov ← holding [v] (eval (.Name x xp) X.env)
      let iv ← holding [v, ov] (eval b X.env)
      standAt ap
      holding [v, ov, iv] (setItem ov iv v)
      release [v, ov, iv] []) := by intro _; rfl) : DS X W da (.Assign [.Subscript (.Name x xp) b ap] e pos) (pSetIx i pa pb) := by
  obtain ⟨t, a1, a2⟩ := he
  obtain ⟨u, b1, b2⟩ := hk
  exact ⟨_, ps_asg a1 (pg_sub (pe_var hN hv hd hcd) b1 set_list ha) hs hw h1, simS_setIx a2 b2⟩
theorem ds_par (i j : Nat) {x y : Str} {px py pt : Pos} {kt k2 pt2} (hc : X.calm = true) (hN : X.N.Nodup) (ha : DA X W da [a, b] pr) (hi : X.N[i]? = some x := by rfl) (hj : X.N[j]? = some y := by rfl) (hij : i ≠ j := by decide)
    (hx : X.env.scope.names.lookup x = some .local := by rfl) (hy : X.env.scope.names.lookup y = some .local := by rfl)
    (hw : swappedStores [.Tuple [.Name x px, .Name y py] kt pt] (.Tuple [a, b] k2 pt2) X.env = pure (some [x, y]) := by rfl)
    (hs : swapsWithSole [.Tuple [.Name x px, .Name y py] kt pt] (.Tuple [a, b] k2 pt2) pos.line X.env = pure false := by rfl) :
    DS X W da (.Assign [.Tuple [.Name x px, .Name y py] kt pt] (.Tuple [a, b] k2 pt2) pos) (pPar i j pr) := by
  obtain ⟨t, a1, a2⟩ := ha
  exact ⟨_, ps_par hc hN hi hj hij hx hy a1 hw hs, simS_par a2⟩
theorem ds_par3 (i j l : Nat) {x y z : Str} {px py pz pt : Pos} {kt k2 pt2} (hc : X.calm = true) (hN : X.N.Nodup) (ha : DA X W da [a, b, c] pr) (hi : X.N[i]? = some x := by rfl) (hj : X.N[j]? = some y := by rfl) (hl : X.N[l]? = some z := by rfl) (hij : i ≠ j := by decide) (hil : i ≠ l := by decide) (hjl : j ≠ l := by decide)
    (hx : X.env.scope.names.lookup x = some .local := by rfl) (hy : X.env.scope.names.lookup y = some .local := by rfl) (hz : X.env.scope.names.lookup z = some .local := by rfl)
    (hw : swappedStores [.Tuple [.Name x px, .Name y py, .Name z pz] kt pt] (.Tuple [a, b, c] k2 pt2) X.env = pure (some [x, y, z]) := by rfl)
    (hs : swapsWithSole [.Tuple [.Name x px, .Name y py, .Name z pz] kt pt] (.Tuple [a, b, c] k2 pt2) pos.line X.env = pure false := by rfl) :
    DS X W da (.Assign [.Tuple [.Name x px, .Name y py, .Name z pz] kt pt] (.Tuple [a, b, c] k2 pt2) pos) (pPar3 i j l pr) := by
  obtain ⟨t, a1, a2⟩ := ha
  exact ⟨_, ps_par3 hc hN hi hj hl hij hil hjl hx hy hz a1 hw hs, simS_par3 a2⟩
theorem ds_asg {tg : Expr} {pg : PTG} {g : TG} (he : DE X W da e pa) (hg : DG X da tg pg g) (hs : swapsWithSole [tg] e pos.line X.env = pure false := by rfl) (hw : swappedStores [tg] e X.env = pure none := by rfl)
    (h1 : (assignEach [tg] X.env).map (·.2) = [assign tg X.env] := by rfl) : DS X W da (.Assign [tg] e pos) (pAsgT pa pg) := by
  obtain ⟨t, a1, a2⟩ := he
  exact ⟨_, ps_asg a1 hg.1 hs hw h1, simS_asgT a2 hg.2⟩
theorem ds_while {body : List Stmt} (hp : PassesOwn (model X.prog X.w) X.A X.env X.xe) (hc : DT X W da c pA) (hb : DSs X W da body p) : DS X W da (.While c body [] pos) (pWhile pA p) := by
  obtain ⟨tc, c1, c2⟩ := hc
  obtain ⟨t, a1, a2⟩ := hb
  exact ⟨_, ps_while hp c1 a1, simS_while c2 a2⟩
theorem ds_for {tg iter : Expr} {body : List Stmt} {q : PTI} {pg : PTG} {g : TG} (hp : PassesOwn (model X.prog X.w) X.A X.env X.xe) (hc : X.calm = true) (hi : DI X W da tg iter q) (hg : DG X da tg pg g) (hb : DSs X W da body p)
    (hs : ∀ x, foldedSetIterable iter X.env x = pure x := by intro _; rfl) : DS X W da (.For tg iter body [] pos) (pFor q pg p) := by
  obtain ⟨ti, i1, i2⟩ := hi
  obtain ⟨t, a1, a2⟩ := hb
  exact ⟨_, ps_for hp hc i1 hg.1 a1 hs, simS_for i2 hg.2 a2⟩

/-! ### raise -/
/-- what is known of an own error class without __init__ -/
structure ExcT (K : PySem.W.Frag) (mg : Str → Option Value) (x : Str) (C : Addr) : Prop where
  g : mg x = some (.ref C)
  x : PySem.W.excIn K C [.type "ValueError", .type "Exception", .type "BaseException", .type "object"] "ValueError.__new__" = true
  k : PySem.W.keepIn K (.ref C) = true
  b : PySem.W.subIn K (.ref C) (.type "BaseException") = some true
  t : PySem.W.typeIn K (.ref C) = some (.type "type")
theorem ds_raise {x m : Str} {C : Addr} {j : Nat} {p1 p2 p3 : Pos} (hc : X.calm = true) (tk : Takes X W) (T : ExcT X.K X.mg x C) (hg : Gl X x := by rfl) (hdb : (x == ("__debug__" : Str)) = false := by decide) :
    DS X W da (.Raise (some (.Call (.Name x p1) [.Constant (.str m) j p2] [] p3)) none pos) (pRaise C) :=
  ⟨_, ps_raise hc tk (pmk_own PySem.F.excBase_ValueError T.x T.g T.k (raises_own T.b T.t) hg hdb), simS_raise⟩

/-! ### calls of defs -/
/-- the def named x keeps the promise sp -/
structure Kn (P : Program) (w : World) (K : PySem.W.Frag) (mg : Str → Option Value) (base : Heap) (x : Str) (k : Nat) (ps : List Str) (st : Stmt) (sp : PSpec) : Prop where
  len : ∀ da ds Q er, sp da ds Q er → ds.length = ps.length
  ex : ∃ f fd, mg x = some (.ref f) ∧ Fun K x x st f fd ∧ Binds K fd ps [] ∧ FnOk P w K mg base (L2.CX P w) k f fd ps (spOf K ps.length sp)
theorem d_call {x : Str} {k k' : Nat} {ps : List Str} {sp : PSpec} {p : Pos} (G : Kn X.prog X.w X.K X.mg X.base x k ps st sp) (hr : Room k' X.A) (hk : k ≤ k') (tk : Takes X W) (ha : DA X W da (e :: es) pr) (hg : Gl X x := by rfl) (hdb : (x == ("__debug__" : Str)) = false := by decide)
    (he : starEach (e :: es) X.env = (false, eval e X.env) :: starEach es X.env := by rfl) (hpl : (backTo pos (starEach es X.env)).any (·.1) = false := by rfl) : DE X W da (.Call (.Name x p) (e :: es) [] pos) (pCall da sp pr) := by
  obtain ⟨t, a1, a2⟩ := ha
  obtain ⟨f, fd, hm, F, hb, G2⟩ := G.ex
  exact ⟨_, pe_callS G2 (hr.mono hk) hg hm F.kp hb (fun σ => passAt tk σ) a1 hdb he hpl, sim_call G.len a2⟩
/-- items by places -/
def permL {α : Type} (ix : List Nat) (l : List α) : List α := ix.filterMap (l[·]?)
theorem Vals.perm {vs : List V} {us : List Value} (h : Vals vs us) : ∀ ix : List Nat, Vals (permL ix vs) (permL ix us)
  | [] => .nil
  | i :: r => by
    have ih := Vals.perm h r
    unfold permL at ih ⊢
    rw [List.filterMap_cons, List.filterMap_cons]
    cases e : vs[i]? with
    | none =>
      rw [h.none_of e]
      exact ih
    | some v =>
      obtain ⟨u, e2, r2⟩ := h.get e
      rw [e2]
      exact .cons r2 ih
theorem Dens.perm {K : PySem.W.Frag} {F : Addr → Prop} {H : Hp} {vs : List V} {us : List D} (h : Dens K F H vs us) : ∀ ix : List Nat, Dens K F H (permL ix vs) (permL ix us)
  | [] => .nil
  | i :: r => by
    have ih := Dens.perm h r
    unfold permL at ih ⊢
    rw [List.filterMap_cons, List.filterMap_cons]
    cases e : vs[i]? with
    | none =>
      have : us[i]? = none := by
        rw [List.getElem?_eq_none_iff] at e ⊢
        rw [← h.length]; exact e
      rw [this]
      exact ih
    | some v =>
      obtain ⟨u, e2, r2⟩ := h.get e
      rw [e2]
      exact .cons r2 ih
theorem run_kw {pins : List (Addr × Obj)} {σ : St} {H : Hp} {s : Shared} {Q : VK} {us ws : List Value} {vs : List V} {k : Nat} {f : Addr} {fd : FuncData} {ps ks : List Str} {sp : Sp} {ix : List Nat} (F : FnOk X.prog X.w X.K X.mg X.base (L2.CX X.prog X.w) k f fd ps sp) (hr : Room k X.A) (tk : Takes X W)
    (hb : BindsTo s fd ⟨us, ks.zip ws⟩ (ps.zip (permL ix (us ++ ws)))) (I : Inv X pins σ H s) (r : Vals vs (us ++ ws)) (h : sp (permL ix vs) H Q (WE W σ)) : wpAny (model X.prog X.w) X.A (call (.ref f) us (ks.zip ws)) (EP X pins σ Q) X.xe s := by
  refine wpAny_call (codeAny_mono (F.run X.A X.stack s H ⟨us, ks.zip ws⟩ (permL ix (us ++ ws)) (permL ix vs) Q (WE W σ) hr I.env0 hb (Vals.perm r ix) h) fun r s' hq => ?_)
  cases r with
  | error e => exact passAt tk σ pins H s e s' I hq
  | ok fl =>
    cases fl with
    | ret u => exact I.after hq
    | next => exact False.elim hq
    | brk => exact False.elim hq
    | cont => exact False.elim hq
def tKw (sp : Sp) (ix : List Nat) (n : Nat) (W : WX) (t : TA) : TE := fun σ H Q => t σ H fun zs H1 => zs.length = n ∧ sp (permL ix zs) H1 Q (WE W σ)
theorem pe_kw0 {k : Nat} {f : Addr} {fd : FuncData} {ps ks : List Str} {sp : Sp} {ix : List Nat} {x : Str} {p : Pos} {kws : List Keyword} {tk' : TA} {n : Nat} (F : FnOk X.prog X.w X.K X.mg X.base (L2.CX X.prog X.w) k f fd ps sp) (hr : Room k X.A) (tk : Takes X W) (hg : Gl X x) (hm : X.mg x = some (.ref f)) (hk : PySem.W.keepIn X.K (.ref f) = true)
    (hb : ∀ (s : Shared) (ws : List Value), ws.length = n → BindsTo s fd ⟨[], ks.zip ws⟩ (ps.zip (permL ix ws))) (hkw : PK X kws tk')
    (hall : (backToKw pos (keywordEach kws X.env)).all (·.1.isSome) = true := by rfl) (hks : (backToKw pos (keywordEach kws X.env)).filterMap (·.1) = ks := by rfl)
    (hdb : (x == ("__debug__" : Str)) = false := by decide) (hpl : ((backTo pos (starEach [] X.env)).any (·.1) || (backToKw pos (keywordEach kws X.env)).any (·.1.isNone)) = false := by rfl) :
    PE X (.Call (.Name x p) [] kws pos) (tKw sp ix n W tk') := by
  refine ⟨fun pins s σ H Q I h => ?_⟩
  refine wpAny_Call_Name_kw (ld_glob I hg hm ?_ hdb)
  refine PySem.W.callWith_KW0 (h₀ := X.base) I.ok.mod.kin hk hall ?_ hpl
  refine thn (hkw.run pos pins s σ H _ I h) fun ws s2 ⟨zs, H2, I2, rz, hn, q2⟩ => ⟨I2.kIn, ?_⟩
  rw [hks]
  exact run_kw (us := []) F hr tk (by simpa using hb s2 ws (by rw [← rz.length]; exact hn)) I2 (by simpa using rz) q2
def pCallK (da : GE) (sp : PSpec) (ix : List Nat) (n : Nat) (pa : PTA) : PTE := fun ps Q er => pa ps (fun ds ps1 => ds.length = n ∧ sp da (permL ix ds) (fun d => Q (.v d) ps1) er) er
theorem sim_kw {K : PySem.W.Frag} {m : Nat} {sp : PSpec} {ix : List Nat} {n : Nat} {pa : PTA} {ta : TA} (hn : ∀ da ds Q er, sp da ds Q er → ds.length = m) (ha : SimA K W da pa ta) : SimE K W da (pCallK da sp ix n pa) (tKw (spOf K m sp) ix n W ta) := by
  intro B F ps σ H Q PQ er R hp post he
  refine ha B F ps σ H _ _ er R hp (fun F1 H1 ps1 vs ds R1 S1 dens hp1 => ?_) he
  refine ⟨by rw [dens.length]; exact hp1.1, da, F1, _, _, er, dens.perm ix, hn _ _ _ _ hp1.2, R1.dom, R1.draw, hp1.2, fun F' H' v d k den q => ?_, fun e F' H' dd k h1 h2 => ?_⟩
  · obtain ⟨R2, S2⟩ := R1.after k
    exact post F' H' ps1 v (.v d) R2 (S1.trans S2) den q
  · exact he e F' H' ps1 dd (R1.after k).1 h1 h2
theorem dk_nil : DK X W da [] pNil := ⟨_, pk_nil, sim_nil⟩
theorem dk_cons {nm : Option Str} {kpos : Pos} {kws : List Keyword} (ha : DE X W da e pa) (hr : DK X W da kws pr) : DK X W da (⟨nm, e, kpos⟩ :: kws) (pCons pa pr) := by
  obtain ⟨ta, a1, a2⟩ := ha
  obtain ⟨tr, r1, r2⟩ := hr
  exact ⟨_, pk_cons a1 r1, sim_cons a2 r2⟩
theorem d_kw0 {x : Str} {k k' : Nat} {ps ks : List Str} {sp : PSpec} {p : Pos} {kws : List Keyword} (ix : List Nat) (n : Nat) (G : Kn X.prog X.w X.K X.mg X.base x k ps st sp) (hr : Room k' X.A) (hk : k ≤ k') (tk : Takes X W) (ha : DK X W da kws pr)
    (hb : ∀ (kV doc pm : Value) (an : Option Addr) (cdv ct : Value) (ws : List Value), ws.length = n → bindArgs (PySem.W.fnOf x x (defArgs st) (defBody st) (defScope st) .none kV doc pm an cdv ct) ⟨[], ks.zip ws⟩ = pure (ps.zip (permL ix ws)))
    (hg : Gl X x := by rfl) (hall : (backToKw pos (keywordEach kws X.env)).all (·.1.isSome) = true := by rfl) (hks : (backToKw pos (keywordEach kws X.env)).filterMap (·.1) = ks := by rfl)
    (hdb : (x == ("__debug__" : Str)) = false := by decide) (hpl : ((backTo pos (starEach [] X.env)).any (·.1) || (backToKw pos (keywordEach kws X.env)).any (·.1.isNone)) = false := by rfl) : DE X W da (.Call (.Name x p) [] kws pos) (pCallK da sp ix n pr) := by
  obtain ⟨t, a1, a2⟩ := ha
  obtain ⟨f, fd, hm, F, _, G2⟩ := G.ex
  refine ⟨_, pe_kw0 (ix := ix) (n := n) G2 (hr.mono hk) tk hg hm F.kp (fun s ws hn => ?_) a1 hall hks hdb hpl, sim_kw G.len a2⟩
  obtain ⟨oc, od, kV, doc, pm, an, cdv, ct, osl, rfl, _⟩ := F.ex
  exact .of_eq (hb kV doc pm an cdv ct ws hn)
end

/-! ### a def's promise from its body -/
def startP (n : Nat) (ds : List D) : List PV := ds.map PV.val ++ List.replicate (n - ds.length) .no
abbrev bcx (P : Program) (w : World) (K : PySem.W.Frag) (mg : Str → Option Value) (base : Heap) (N : List Str) (x : Str) (st : Stmt) (f : Addr) (cdv : Value) (A : Around) (outer : List Env) (s : Shared) (H : Hp) (E : XK) : Cx :=
  cxOf (L2.CX P w) P w K mg base N x (defScope st) f cdv A outer s H E
abbrev bW (E : XK) : WX := fun cls d _ H => E cls d H
theorem start_get {K : PySem.W.Frag} {F : Addr → Prop} {H : Hp} {vs : List V} {ds : List D} (h : Dens K F H vs ds) (N : List Str) : ∀ (i : Nat) (pv : PV), (startP N.length ds)[i]? = some pv → SlotOk K F H (L2.start N vs)[i]? pv := fun i pv e => by
  unfold startP at e
  unfold L2.start
  by_cases hi : i < ds.length
  · rw [List.getElem?_append_left (by simpa using hi), List.getElem?_map] at e
    cases q : ds[i]? with
    | none => rw [q] at e; cases e
    | some d =>
      rw [q] at e
      cases e
      obtain ⟨v, e1, den⟩ := h.getD q
      refine ⟨v, ?_, den⟩
      rw [List.getElem?_append_left (by rw [List.length_map, h.length]; exact hi), List.getElem?_map, e1]
      rfl
  · rw [List.getElem?_append_right (by simpa using hi)] at e
    obtain ⟨h1, h2⟩ := List.getElem?_eq_some_iff.mp e
    rw [List.getElem_replicate] at h2
    subst h2
    trivial
theorem startP_no {n : Nat} {ds : List D} {i : Nat} {d : D} (h : (startP n ds)[i]? = some (.own d)) : False := by
  unfold startP at h
  rcases List.mem_append.mp (List.mem_of_getElem? h) with q | q
  · obtain ⟨_, _, e⟩ := List.mem_map.mp q
    cases e
  · have := (List.mem_replicate.mp q).2
    cases this
theorem kn_mk {P : Program} {w : World} {K : PySem.W.Frag} {mg : Str → Option Value} {base : Heap} {x : Str} {k : Nat} {N ps : List Str} {st : Stmt} {sp : PSpec} {f : Addr} {fd : FuncData} {p : GE → PTS} (F : Fun K x x st f fd) (hm : mg x = some (.ref f)) (S : FnScope N ps (defScope st))
    (len : ∀ da ds Q er, sp da ds Q er → ds.length = ps.length)
    (binds : ∀ (kV doc pm : Value) (an : Option Addr) (cdv ct : Value) (us : List Value), us.length = ps.length → bindArgs (PySem.W.fnOf x x (defArgs st) (defBody st) (defScope st) .none kV doc pm an cdv ct) ⟨us, []⟩ = pure (ps.zip us))
    (hbody : ∀ (cdv : Value) (A : Around) (outer : List Env) (s : Shared) (H : Hp) (E : XK) (da : GE), Room k (bcx P w K mg base N x st f cdv A outer s H E).A → Takes (bcx P w K mg base N x st f cdv A outer s H E) (bW E) → DSs (bcx P w K mg base N x st f cdv A outer s H E) (bW E) da (defBody st) (p da))
    (hp : ∀ da ds Q er, sp da ds Q er → p da { nx := fun _ => Q .non, rt := Q, er := er } (startP N.length ds)) : Kn P w K mg base x (k + 1) ps st sp := by
  refine ⟨len, f, fd, hm, F, F.binds binds, F.okX S (fun vs H Q E ⟨da, F, ds, PQ, er, dens, hl, _⟩ => by rw [dens.length, hl]) fun cdv A outer s H vs Q E hr h => ?_⟩
  obtain ⟨da, F0, ds, PQ, er, dens, hl, dom, draw, h, post, poste⟩ := h
  obtain ⟨t, h1, h2⟩ := hbody cdv A outer s H E da hr (takes_of rfl rfl rfl rfl)
  refine ⟨t, h1, h2 ⟨H, F0, F0, H⟩ F0 _ _ H _ _ ?_ (hp da ds PQ er h) ?_⟩
  · refine ⟨?_, start_get dens N, fun i j di dj a e => (startP_no e).elim, draw, fun a o h _ => h, fun a h => h, fun a _ => rfl, fun a h _ => h, fun a ⟨i, d, e, _⟩ => (startP_no e).elim, dom, fun a e => draw.fix e⟩
    unfold startP L2.start
    simp only [List.length_append, List.length_map, List.length_replicate, dens.length]
  · exact ⟨fun F' ps' σ' H' R q => post F' H' .non .non (R.kept fun _ h => h) .non q, fun F' ps' σ' H' v d R den q => post F' H' v d (R.kept fun _ h => h) den q, fun _ _ _ _ _ q => q.elim, fun _ _ _ _ _ q => q.elim,
      fun σ' e F' H' ps' dd R h1 h2 => poste e F' H' dd (R.kept fun _ h => h) h1 h2⟩
end DL

set_option maxHeartbeats 4000000
/-! DL8: pairs stored at once, names of the top, sequences walked. -/
namespace DL
open PySem PySem.Spec PyProof.Rows L2

section
variable {K : PySem.W.Frag} {W : WX} {da : GE}
def frzB (r : RV) (ps : List PV) (k : RV → List PV → Prop) : Prop :=
  match r with
  | .v d => k (.v d) ps
  | .b i d => ps[i]? = some (.own d) ∧ k (.v d) (ps.set i (.val d))
  | .f d => k (.f d) ps
def nb : RV → Prop
  | .b _ _ => False
  | _ => True
def pvOf : RV → PV
  | .v d => .val d
  | .f d => .own d
  | .b _ d => .val d
theorem live_nb {r : RV} {ps : List PV} (h : nb r) : live r ps := by
  cases r with
  | b i d => exact h.elim
  | _ => trivial
theorem frzB_sim {B : Base} {F F1 : Addr → Prop} {ps ps1 : List PV} {σ : St} {Hs H : Hp} {v : V} {r : RV} {k : RV → List PV → Prop} (R1 : Rel K da B F1 ps1 σ Hs) (S : Stp da F1 ps1 σ Hs F ps H) (R : Rel K da B F ps σ H) (h : RVOk K Hs F ps σ H v r) (hk : frzB r ps k) :
    ∃ F' ps' r', Rel K da B F' ps' σ H ∧ Stp da F1 ps1 σ Hs F' ps' H ∧ RVOk K Hs F' ps' σ H v r' ∧ nb r' ∧ k r' ps' := by
  cases r with
  | v d => exact ⟨F, ps, .v d, R, S, h, trivial, hk⟩
  | f d => exact ⟨F, ps, .f d, R, S, h, trivial, hk⟩
  | b i d =>
    obtain ⟨F', ps', R', S', den, q⟩ := frz_sim (k := fun d ps => k (.v d) ps) R1 S R h hk
    exact ⟨F', ps', .v d, R', S', den, trivial, q⟩
theorem Rel.setRV {B : Base} {F : Addr → Prop} {ps : List PV} {σ : St} {Hs H : Hp} {v : V} {r : RV} (i : Nat) (R : Rel K da B F ps σ H) (hn : nb r) (h : RVOk K Hs F ps σ H v r) (ho : ∀ a, Own ps σ a → Hs a ≠ none) (h0 : ∀ a, Hs a = none → B.H0 a = none) :
    Rel K da B F (ps.set i (pvOf r)) (σ.set i (some v)) H := by
  cases r with
  | v d => exact R.setVal i h
  | b i d => exact hn.elim
  | f d =>
    obtain ⟨a, rfl, n, nF, c⟩ := h
    refine R.set i (.own d) _ ⟨a, rfl, nF, c⟩ fun d' b e1 e2 => ?_
    cases e2
    exact ⟨h0 a n, fun j dj hj z => ho a ⟨j, dj, hj, z⟩ n⟩
theorem RVOk.slots {Hs H : Hp} {F : Addr → Prop} {ps ps' : List PV} {σ σ' : St} {v : V} {r : RV} (hn : nb r) (h : RVOk K Hs F ps σ H v r) : RVOk K Hs F ps' σ' H v r := by
  cases r with
  | v d => exact h
  | b i d => exact hn.elim
  | f d => exact h
theorem own_setRV {Hs H : Hp} {F : Addr → Prop} {ps : List PV} {σ : St} {v : V} {r : RV} {i : Nat} (hn : nb r) (h : RVOk K Hs F ps σ H v r) : ∀ a, Own (ps.set i (pvOf r)) (σ.set i (some v)) a → Own ps σ a ∨ H a ≠ none := fun a ⟨j, d, h1, h2⟩ => by
  rcases set_get h1 with ⟨e1, e2, _⟩ | ⟨ne, hj⟩
  · cases r with
    | v d => cases e2
    | b i d => exact hn.elim
    | f d =>
      obtain ⟨b, rfl, n, nF, c⟩ := h
      subst e1
      by_cases hl : j < σ.length
      · rw [List.getElem?_set_self hl] at h2
        cases h2
        exact .inr c.there
      · rw [List.getElem?_eq_none (by rw [List.length_set]; omega)] at h2
        cases h2
  · rw [List.getElem?_set_ne (Ne.symm ne)] at h2
    exact .inl ⟨j, d, hj, h2⟩
def pPar2 (i j : Nat) (pa pb : PTE) : PTS := fun PD ps => pa ps (fun x ps1 => frzB x ps1 fun x ps2 => pb ps2 (fun y ps3 => frzB y ps3 fun y ps4 => PD.nx ((ps4.set i (pvOf x)).set j (pvOf y))) PD.er) PD.er
theorem H0_of {B : Base} {F : Addr → Prop} {ps : List PV} {σ : St} {H : Hp} (R : Rel K da B F ps σ H) : ∀ a, H a = none → B.H0 a = none := fun a h => by
  cases q : B.H0 a with
  | none => rfl
  | some o => exact absurd h (R.H0T (by rw [q]; simp))
theorem simS_par2 {i j : Nat} {pa pb : PTE} {ta tb : TE} (ha : SimE K W da pa ta) (hb : SimE K W da pb tb) : SimS K W da (pPar2 i j pa pb) (tPar i j (tCons ta (tCons tb tNil))) := by
  intro B F ps σ H D PD R hp E
  refine ha B F ps σ H _ _ PD.er R hp (fun F1 H1 ps1 v x R1 S1 ok1 hp1 => ?_) (E.er σ)
  obtain ⟨F2, ps2, x', R2, S2, ok2, n2, hp2⟩ := frzB_sim R S1 R1 ok1 hp1
  refine hb B F2 ps2 σ H1 _ _ PD.er R2 hp2 (fun F3 H3 ps3 u y R3 S3 ok3 hp3 => ?_) (E.er σ)
  obtain ⟨F4, ps4, y', R4, S4, ok4, n4, hp4⟩ := frzB_sim R2 S3 R3 ok3 hp3
  have ok2' : RVOk K H F4 ps4 σ H3 v x' := ok2.step R2 (fun a h => R.ownT (S2.own a h)) (fun a h => R.draw.fix h) S4 (live_nb n2)
  have Ra := R4.setRV i n2 ok2' (fun a h => R.ownT (S2.own a (S4.own a h))) (H0_of R)
  have Rb := Ra.setRV j n4 (ok4.slots n4) (fun a h => ?_) (H0_of R2)
  · exact ⟨v, u, rfl, E.nx F4 _ _ H3 Rb hp4⟩
  · have ok2h : RVOk K H F2 ps4 σ H1 v x' := ok2.slots n2
    rcases own_setRV (i := i) n2 ok2h a h with z | z
    · exact R2.ownT (S4.own a z)
    · exact z
def pPar3' (i j l : Nat) (pa pb pc : PTE) : PTS := fun PD ps => pa ps (fun x ps1 => frzB x ps1 fun x ps2 => pb ps2 (fun y ps3 => frzB y ps3 fun y ps4 => pc ps4 (fun z ps5 => frzB z ps5 fun z ps6 => PD.nx (((ps6.set i (pvOf x)).set j (pvOf y)).set l (pvOf z))) PD.er) PD.er) PD.er
theorem simS_par3' {i j l : Nat} {pa pb pc : PTE} {ta tb tc : TE} (ha : SimE K W da pa ta) (hb : SimE K W da pb tb) (hc : SimE K W da pc tc) : SimS K W da (pPar3' i j l pa pb pc) (tPar3 i j l (tCons ta (tCons tb (tCons tc tNil)))) := by
  intro B F ps σ H D PD R hp E
  refine ha B F ps σ H _ _ PD.er R hp (fun F1 H1 ps1 v x R1 S1 ok1 hp1 => ?_) (E.er σ)
  obtain ⟨F2, ps2, x', R2, S2, ok2, n2, hp2⟩ := frzB_sim R S1 R1 ok1 hp1
  refine hb B F2 ps2 σ H1 _ _ PD.er R2 hp2 (fun F3 H3 ps3 u y R3 S3 ok3 hp3 => ?_) (E.er σ)
  obtain ⟨F4, ps4, y', R4, S4, ok4, n4, hp4⟩ := frzB_sim R2 S3 R3 ok3 hp3
  refine hc B F4 ps4 σ H3 _ _ PD.er R4 hp4 (fun F5 H5 ps5 t z R5 S5 ok5 hp5 => ?_) (E.er σ)
  obtain ⟨F6, ps6, z', R6, S6, ok6, n6, hp6⟩ := frzB_sim R4 S5 R5 ok5 hp5
  have ok2' : RVOk K H F4 ps4 σ H3 v x' := ok2.step R2 (fun a h => R.ownT (S2.own a h)) (fun a h => R.draw.fix h) S4 (live_nb n2)
  have ok2'' : RVOk K H F6 ps6 σ H5 v x' := ok2'.step R4 (fun a h => R.ownT (S2.own a (S4.own a h))) (fun a h => R.draw.fix h) S6 (live_nb n2)
  have ok4' : RVOk K H1 F6 ps6 σ H5 u y' := ok4.step R4 (fun a h => R2.ownT (S4.own a h)) (fun a h => R2.draw.fix h) S6 (live_nb n4)
  have Ra := R6.setRV i n2 ok2'' (fun a h => R.ownT (S2.own a (S4.own a (S6.own a h)))) (H0_of R)
  have own1 : ∀ a, Own (ps6.set i (pvOf x')) (σ.set i (some v)) a → H1 a ≠ none := fun a h => by
    have ok2h : RVOk K H F2 ps6 σ H1 v x' := ok2.slots n2
    rcases own_setRV (i := i) n2 ok2h a h with z | z
    · exact R2.ownT (S4.own a (S6.own a z))
    · exact z
  have Rb := Ra.setRV j n4 (ok4'.slots n4) own1 (H0_of R2)
  have Rc := Rb.setRV l n6 (ok6.slots n6) (fun a h => ?_) (H0_of R4)
  · exact ⟨v, u, t, rfl, E.nx F6 _ _ H5 Rc hp6⟩
  · have ok4h : RVOk K H1 F4 (ps6.set i (pvOf x')) (σ.set i (some v)) H3 u y' := ok4.slots n4
    rcases own_setRV (i := j) n4 ok4h a h with z | z
    · exact S4.there a (own1 a z)
    · exact z
end

section
variable {X : Cx} {W : WX} {da : GE} {a b c e : Expr} {pa pb pc : PTE} {pos : Pos}
theorem ds_par2 (i j : Nat) {x y : Str} {px py pt : Pos} {kt k2 pt2} (hc : X.calm = true) (hN : X.N.Nodup) (ha : DE X W da a pa) (hb : DE X W da b pb) (hi : X.N[i]? = some x := by rfl) (hj : X.N[j]? = some y := by rfl) (hij : i ≠ j := by decide)
    (hx : X.env.scope.names.lookup x = some .local := by rfl) (hy : X.env.scope.names.lookup y = some .local := by rfl)
    (h1 : starEach [a, b] X.env = (false, eval a X.env) :: starEach [b] X.env := by rfl) (h2 : starEach [b] X.env = (false, eval b X.env) :: starEach [] X.env := by rfl)
    (hw : swappedStores [.Tuple [.Name x px, .Name y py] kt pt] (.Tuple [a, b] k2 pt2) X.env = pure (some [x, y]) := by rfl)
    (hs : swapsWithSole [.Tuple [.Name x px, .Name y py] kt pt] (.Tuple [a, b] k2 pt2) pos.line X.env = pure false := by rfl) :
    DS X W da (.Assign [.Tuple [.Name x px, .Name y py] kt pt] (.Tuple [a, b] k2 pt2) pos) (pPar2 i j pa pb) := by
  obtain ⟨ta, a1, a2⟩ := ha
  obtain ⟨tb, b1, b2⟩ := hb
  exact ⟨_, ps_par hc hN hi hj hij hx hy (pa_cons a1 (pa_cons b1 pa_nil h2) h1) hw hs, simS_par2 a2 b2⟩
theorem ds_par3' (i j l : Nat) {x y z : Str} {px py pz pt : Pos} {kt k2 pt2} (hc : X.calm = true) (hN : X.N.Nodup) (ha : DE X W da a pa) (hb : DE X W da b pb) (hcc : DE X W da c pc) (hi : X.N[i]? = some x := by rfl) (hj : X.N[j]? = some y := by rfl) (hl : X.N[l]? = some z := by rfl) (hij : i ≠ j := by decide) (hil : i ≠ l := by decide) (hjl : j ≠ l := by decide)
    (hx : X.env.scope.names.lookup x = some .local := by rfl) (hy : X.env.scope.names.lookup y = some .local := by rfl) (hz : X.env.scope.names.lookup z = some .local := by rfl)
    (h1 : starEach [a, b, c] X.env = (false, eval a X.env) :: starEach [b, c] X.env := by rfl) (h2 : starEach [b, c] X.env = (false, eval b X.env) :: starEach [c] X.env := by rfl) (h3 : starEach [c] X.env = (false, eval c X.env) :: starEach [] X.env := by rfl)
    (hw : swappedStores [.Tuple [.Name x px, .Name y py, .Name z pz] kt pt] (.Tuple [a, b, c] k2 pt2) X.env = pure (some [x, y, z]) := by rfl)
    (hs : swapsWithSole [.Tuple [.Name x px, .Name y py, .Name z pz] kt pt] (.Tuple [a, b, c] k2 pt2) pos.line X.env = pure false := by rfl) :
    DS X W da (.Assign [.Tuple [.Name x px, .Name y py, .Name z pz] kt pt] (.Tuple [a, b, c] k2 pt2) pos) (pPar3' i j l pa pb pc) := by
  obtain ⟨ta, a1, a2⟩ := ha
  obtain ⟨tb, b1, b2⟩ := hb
  obtain ⟨tc, c1, c2⟩ := hcc
  exact ⟨_, ps_par3 hc hN hi hj hl hij hil hjl hx hy hz (pa_cons a1 (pa_cons b1 (pa_cons c1 pa_nil h3) h2) h1) hw hs, simS_par3' a2 b2 c2⟩

/-! ### a list or a tuple is walked -/
def iSeq (K : PySem.W.Frag) (tl : TE) : TI := fun σ H R => tl σ H fun x H1 => (∃ a, x = .ref a ∧ (∃ xs, SqL K H1 a xs) ∧ R (Itl K a) H1) ∨ ∃ a, x = .ref a ∧ (∃ xs, SqT K H1 a xs) ∧ R (Itt K a) H1
theorem pi_seq {tg l : Expr} {tl : TE} (hl : PE X l tl) : PI X tg l (iSeq X.K tl) := by
  refine ⟨fun pins s σ H R I h => ?_⟩
  refine thn (hl.run pins s σ H _ I h) fun v s1 ⟨x, H1, I1, r1, q1⟩ => ?_
  rcases q1 with ⟨a, e, ⟨xs, hq⟩, q⟩ | ⟨a, e, ⟨xs, hq⟩, q⟩
  · subst e
    cases r1
    obtain ⟨its, rv, p, hz⟩ := I1.list hq
    refine wpAny_pyIter_list p.isList ?_
    refine ⟨s1.heap.objs.size, [s1.heap.objs.size], _, _, H1, rfl, I1.kept (t' := s1.toks) fun b o e => Heap.get?_push_of_some _ e, turn_list a _, ⟨_, Heap.get?_push_size _ rfl, rfl, rfl⟩, fun b hb => ?_, q⟩
    have e : b = s1.heap.objs.size := by simpa using hb
    subst e
    exact I1.fpOk (Nat.le_refl _) (I1.hok.fresh (Nat.le_refl _))
  · subst e
    cases r1
    obtain ⟨its, rv, p, hz⟩ := I1.tuple hq
    refine wpAny_pyIter_tuple (show s1.heap.IsTuple a its.toArray from p) ?_
    refine ⟨s1.heap.objs.size, [s1.heap.objs.size], _, _, H1, rfl, I1.kept (t' := s1.toks) fun b o e => Heap.get?_push_of_some _ e, turn_tuple a _, ⟨_, Heap.get?_push_size _ rfl, rfl, rfl⟩, fun b hb => ?_, q⟩
    have e : b = s1.heap.objs.size := by simpa using hb
    subst e
    exact I1.fpOk (Nat.le_refl _) (I1.hok.fresh (Nat.le_refl _))
def pItS (pa : PTE) : PTI := fun ps Q er => pa ps (fun r ps1 => frz r ps1 fun d ps2 => ∃ l, seqOf d = some l ∧ Q l ps2) er
theorem sim_itS {K : PySem.W.Frag} {ta : TE} (ha : SimE K W da pa ta) : SimI K W da (pItS pa) (iSeq K ta) := by
  intro B F ps σ H R PQ er R0 hp post he
  refine ha B F ps σ H _ _ er R0 hp (fun F1 H1 ps1 v x R1 S1 ok1 hp1 => ?_) he
  obtain ⟨F2, ps2, R2, S2, den, l, e, q⟩ := frz_sim R0 S1 R1 ok1 hp1
  revert e den
  generalize x.d = d
  intro den e
  cases d with
  | lst l' =>
    cases e
    cases den with
    | lst f h1 h2 =>
      rename_i a xs
      refine .inl ⟨a, rfl, ⟨xs, .of h1⟩, post F2 H1 ps2 _ l R2 S2 ⟨fun H => SqL K H a xs, YAt xs, by rw [← h2.length]; exact walk_list (xs := xs), fun H1' eq => .of ((eq a f).trans h1), fun i H1' y H2' d eq F1' hF dom hY e => ?_⟩ q⟩
      obtain ⟨rfl, hx⟩ := hY
      exact ⟨F1', .refl dom, getD_of h2 hF eq hx e⟩
  | tup l' =>
    cases e
    cases den with
    | tup f h2 =>
      rename_i a xs
      have sq : ∀ H1', (∀ a, F2 a → H1' a = H1 a) → SqT K H1' a xs := fun H1' eq => by
        rcases f with ⟨f, h1⟩ | q
        · exact .of ((eq a f).trans h1)
        · exact .inr q
      refine .inr ⟨a, rfl, ⟨xs, sq _ fun _ _ => rfl⟩, post F2 H1 ps2 _ l R2 S2 ⟨fun H => SqT K H a xs, YAt xs, by rw [← h2.length]; exact walk_tup (xs := xs), sq, fun i H1' y H2' d eq F1' hF dom hY e => ?_⟩ q⟩
      obtain ⟨rfl, hx⟩ := hY
      exact ⟨F1', .refl dom, getD_of h2 hF eq hx e⟩
  | _ => cases e
theorem di_seq {tg : Expr} (ha : DE X W da a pa) : DI X W da tg a (pItS pa) := by
  obtain ⟨ta, a1, a2⟩ := ha
  exact ⟨_, pi_seq a1, sim_itS a2⟩

/-! ### names of the top -/
def pGlob (mg : Str → Option Value) (x : Str) : PTE := fun ps Q _ => ∀ a, mg x = some (.ref a) → Q (.v (.ref a)) ps
theorem d_globN {x : Str} (hg : Gl X x) (h : ∃ f, X.mg x = some (.ref f)) (hd : (x == ("__debug__" : Str)) = false := by decide) : DE X W da (.Name x pos) (pGlob X.mg x) := by
  obtain ⟨f, hm⟩ := h
  refine ⟨_, pe_glob (v := .ref f) hg hm rfl hd, ?_⟩
  intro B F ps σ H Q PQ er R hp post he
  exact post F H ps (.ref f) (.v (.ref f)) R .refl (Den.ref f) (hp f hm)
def pRaiseN (mg : Str → Option Value) (x : Str) : PTS := fun PD _ => ∀ C, mg x = some (.ref C) → PD.er ⟨C, none⟩
theorem ds_raiseN {x m : Str} {j : Nat} {p1 p2 p3 : Pos} (hc : X.calm = true) (tk : Takes X W) (h : ∃ C, ExcT X.K X.mg x C) (hg : Gl X x := by rfl) (hdb : (x == ("__debug__" : Str)) = false := by decide) :
    DS X W da (.Raise (some (.Call (.Name x p1) [.Constant (.str m) j p2] [] p3)) none pos) (pRaiseN X.mg x) := by
  obtain ⟨C, T⟩ := h
  refine ⟨_, ps_raise hc tk (pmk_own PySem.F.excBase_ValueError T.x T.g T.k (raises_own T.b T.t) hg hdb), ?_⟩
  intro B F ps σ H D PD R hp E
  exact E.er σ ⟨C, none⟩ F H ps none R (hp C T.g) rfl
end
/-- no built-in is hidden -/
structure Blt (mg : Str → Option Value) : Prop where
  abs : mg "abs" = none
  all : mg "all" = none
  any : mg "any" = none
  bool : mg "bool" = none
  dict : mg "dict" = none
  enumerate : mg "enumerate" = none
  int : mg "int" = none
  isinstance : mg "isinstance" = none
  len : mg "len" = none
  list : mg "list" = none
  max : mg "max" = none
  min : mg "min" = none
  range : mg "range" = none
  repr : mg "repr" = none
  sorted : mg "sorted" = none
  str : mg "str" = none
  sum : mg "sum" = none
  tuple : mg "tuple" = none
  zip : mg "zip" = none
end DL

set_option maxHeartbeats 4000000
/-! DL9: a caught exception kept as a value; a lambda handed to the def that catches. -/
namespace DL
open PySem PySem.Spec PyProof.Rows L2 LamX

/-- an object of ours is told of from now on -/
theorem inv_track {X : Cx} {pins : List (Addr × Obj)} {σ : St} {H : Hp} {s : Shared} {a : Addr} {φ : Heap → Prop} (I : Inv X pins σ H s) (h0 : X.s_0.heap.get? a = none) (hn : H a = none) (nL : a ≠ X.env.locals) (nC : ∀ y c, X.env.cells.lookup y = some c → c ≠ a)
    (nP : ∀ p ∈ X.pn ++ pins, p.1 ≠ a) (ok : ObjOk X.prog X.w (upd H a (.ext φ)) s.heap a (.ext φ)) : Inv X pins σ (upd H a (.ext φ)) s := by
  have un := I.base
  refine ⟨I.ok, I.os, I.bare, ⟨un.keep, un.slot, fun b o e n hx => ?_, un.there, fun b xs e => ?_, fun b o u e => ?_, fun b ps e => ?_⟩, I.loc, I.cell, ?_, fun y c e => ?_, fun p hp => ?_, fun b u e => ?_, I.len⟩
  · rw [upd_ne (fun z => by rw [z, h0] at e; cases e)]
    exact un.free b o e n hx
  · rw [upd_ne (ne_of_none (un.tups b xs e) hn)]; exact un.tups b xs e
  · rw [upd_ne (ne_of_none (un.frzs b o u e) hn)]; exact un.frzs b o u e
  · obtain ⟨m, q⟩ := un.tbls b ps e
    exact ⟨m, by rw [upd_ne (ne_of_none q hn)]; exact q⟩
  · rw [upd_ne (Ne.symm nL)]; exact I.free
  · rw [upd_ne (nC y c e)]; exact I.freeC y c e
  · obtain ⟨e, n, r⟩ := I.pin p hp
    exact ⟨e, by rw [upd_ne (nP p hp)]; exact n, r⟩
  · by_cases hb : b = a
    · subst hb
      rw [upd_same] at e
      cases e
      exact ok
    · rw [upd_ne hb] at e
      exact (I.hok b u e).stay (fun c v _ q => q) (fun c q => by rw [upd_ne (ne_of_none q hn)]; exact q) fun c xs q => by rw [upd_ne (ne_of_none q hn)]; exact q
theorem excC_ok {P : Program} {w : World} {H : Hp} {h : Heap} {a : Addr} {cls : Value} {d : Option Addr} {oe : Obj} (e : h.get? a = some oe) (z : Zc cls d oe) (hd : ∃ vs, oe.data = .fields vs) : ObjOk P w H h a (ExC cls d a) := by
  obtain ⟨vs, hv⟩ := hd
  exact ⟨⟨oe, vs, e, z, hv⟩, ⟨oe, e⟩, fun _ _ ⟨o, v, q, r⟩ k => ⟨o, v, k o q, r⟩⟩

/-- what the clause 'except x as n' wishes of an exception of the body; the object is told of behind it -/
def wAsT (K : PySem.W.Frag) (c : Value) (i : Nat) (ts : Addr → TS) (D : Ends) : WX := fun cls d σ H =>
  PySem.W.exmOne K cls c = some true ∧ ∀ a, H a = none → ts a { nx := fun σ' H' => H' a = none → D.nx (σ'.set i none) (upd H' a (ExC cls d a)), rt := fun _ _ => False, bk := fun _ _ => False, ct := fun _ _ => False } (σ.set i (some (.ref a))) H
section
variable {X : Cx} {x n : Str} {c : Value} {i : Nat} {body suite : List Stmt} {b₀ : Stmt} {np pos pos' : Pos} {tb : WX → TS} {ts : Addr → TS}
theorem ps_try_track (hs : X.stack = X.env :: X.outer) (hf : X.env.frame = some X.env.locals) (hN : X.N.Nodup) (hi : X.N[i]? = some n) (hln : X.env.kindOf n = some .local) (hc : Names X x c) (hex : X.ex = [])
    (hb : ∀ (W : WX) (pn : List (Addr × Obj)) (xe : Value → Shared → Prop), Takes (X.tr pn xe) W → PSs (X.tr pn xe) body (tb W))
    (hsu : ∀ (a : Addr) (oe : Obj) (pn : List (Addr × Obj)), PSs (X.suite a ((a, oe) :: pn)) (b₀ :: suite) (ts a)) :
    PS X (.Try body [.ExceptHandler (some (.Name x np)) (some n) (b₀ :: suite) pos'] [] [] pos) (fun D σ H => tb (wAsT X.K c i ts D) D σ H) := by
  refine ⟨fun pins s σ H D I h => ?_⟩
  have ok := I.ok
  have hfr : X.A.frames = some (X.env :: X.outer) := by rw [ok.frames, hs]
  have hloc : Loc X.env.scope n := .inl hln
  refine wpAny_Try_except ?_
  refine wpAny_mono ((hb (wAsT X.K c i ts D) (X.pn ++ pins) (fun e s₁ => wpAny (model X.prog X.w) X.A (noteFrame e X.env) (fun _ s₂ => wpAny (model X.prog X.w) X.A (setFlight e none) (fun _ s₃ =>
    wpAny (model X.prog X.w) X.A (handleBy e X.env [.ExceptHandler (some (.Name x np)) (some n) (b₀ :: suite) pos']) (SP X pins D) X.xe s₃) X.xe s₂) X.xe s₁) (fun u s' xx => ?_)).run [] s σ H D (I.toTry _) h) (fun f s1 hsp => ?_) (fun e s1 he => he)
  · obtain ⟨a, B, sI, pins', σ', H', cls, d, rfl, J', nb, up, sky, na, os, ag, hm, hyes⟩ := xx
    have J : Inv X pins σ' H' sI := J'.ofTry ok
    have sky' : Sky B (X.env :: X.outer) a (Zc cls d) X.env.locals s'.heap := by rw [← hs]; exact sky
    show wpAny (model X.prog X.w) X.A (noteFrame (.ref a) X.env) _ _ _
    refine Sky.land Zc.steady hfr hf sky' fun h3 fl3 up3 => ?_
    have J3 : Inv X pins σ' H' { s' with heap := h3 } := J.landed nb fl3.1 (up.trans up3) os ag
    obtain ⟨oe3, vs3, he3, hz3, hd3⟩ := fl3.there
    have nfr : a ∉ frs (X.env :: X.outer) := fun hm => by
      obtain ⟨_, o', e', hnf⟩ := fl3.2.2.1.mem hm
      rw [he3] at e'; cases e'
      exact hnf _ hd3
    have nL : a ≠ X.env.locals := fun z => nfr (List.mem_filterMap.mpr ⟨X.env, List.mem_cons_self, by rw [hf, z]⟩)
    have nF : a ∉ X.fs := fun hm => by
      obtain ⟨e, he, q⟩ := List.mem_filterMap.mp hm
      exact nfr (List.mem_filterMap.mpr ⟨e, List.mem_cons_of_mem _ he, q⟩)
    have aI : sI.heap.get? a = none := by
      cases q : sI.heap.get? a with
      | none => rfl
      | some o =>
        have z := nb a o q (by rw [hs]; exact nfr)
        rw [fl3.2.1] at z; cases z
    have a0 : X.s_0.heap.get? a = none := by
      cases q : X.s_0.heap.get? a with
      | none => rfl
      | some o =>
        obtain ⟨o', e⟩ := J.base.there a o q (by rw [hex]; simp)
        rw [aI] at e; cases e
    have nP : ∀ p ∈ X.pn ++ pins, p.1 ≠ a := fun p hp z => by
      have e := (J'.pin p (List.mem_append_left _ hp)).1
      rw [z, aI] at e; cases e
    have nC : ∀ y c, X.env.cells.lookup y = some c → c ≠ a := fun y c e z => by
      obtain ⟨v, o, ho, _⟩ := J.cell y c e
      rw [z, aI] at ho; cases ho
    have S3 := J3.suite he3 hd3 na nL nF
    refine wpAny_handleBy_cons (codeAny_handlers_test ?_) (by intro q; cases q)
    have LT : PySem.W.Looks (model X.prog X.w) h3 (typeOf (.ref a)) cls := fun A Q E s k q => wpAny_typeOf_ref (k _ _ he3) (by rw [hz3.1]; exact q)
    have LM := PySem.W.exm_one (M := model X.prog X.w) (J3.kIn) LT hm
    have test : ∀ {Q : Value → Shared → Prop} {E : Value → Shared → Prop}, Q c { s' with heap := h3 } → wpAny (model X.prog X.w) (X.A.mark (some (.ref a))) (eval (.Name x np) X.env) Q E { s' with heap := h3 } := fun {Q E} q => by
      obtain ⟨hg, hdbg, hm | ⟨hm, hv, hnn⟩⟩ := hc
      · exact ld_glob (X := X.suite a ((a, oe3) :: (X.pn ++ pins))) S3 hg hm q hdbg
      · exact ld_blt (X := X.suite a ((a, oe3) :: (X.pn ++ pins))) S3 hg hm hv q hnn hdbg
    refine test (LM.here ?_)
    refine codeAny_handlers_suite_as ?_
    refine HandSPX.lands_againZ fl3 fun h4 fl4 up4 => ?_
    have J4 : Inv X pins σ' H' { s' with heap := h4 } := J.landed nb fl4.1 ((up.trans up3).trans up4) os ag
    obtain ⟨oe4, vs4, he4, hz4, hd4⟩ := fl4.there
    have S4 := J4.suite he4 hd4 na nL nF
    refine store_ok (X := X.suite a ((a, oe4) :: (X.pn ++ pins))) (v := .ref a) S4 hN hi hloc rfl (fun s5 S5 => ?_) (.inr hln)
    refine wpAny_mono ((hsu a oe4 (X.pn ++ pins)).run [] s5 _ H' _ S5 (hyes a na)) (fun f s6 hsp => ?_) (fun _ _ z => False.elim z)
    cases f with
    | next =>
      obtain ⟨σ6, H6, S6, q6⟩ := hsp
      refine gone_ok (X := X.suite a ((a, oe4) :: (X.pn ++ pins))) S6 hN hi hln fun s7 S7 => ?_
      have e7 := S7.pin (a, oe4) (List.mem_append_left _ List.mem_cons_self)
      exact ⟨_, _, inv_track (S7.unsuite ok) a0 e7.2.1 nL nC nP (excC_ok e7.1 hz4 ⟨vs4, hd4⟩), q6 e7.2.1⟩
    | brk => obtain ⟨_, _, _, q6⟩ := hsp; exact q6.elim
    | cont => obtain ⟨_, _, _, q6⟩ := hsp; exact q6.elim
    | ret u => obtain ⟨_, _, _, _, _, q6⟩ := hsp; exact q6.elim
  · cases f with
    | next =>
      obtain ⟨σ', H', J', q⟩ := hsp
      exact wpAny_execs_nil ⟨σ', H', J'.ofTry ok, q⟩
    | brk =>
      obtain ⟨σ', H', J', q⟩ := hsp
      exact ⟨σ', H', J'.ofTry ok, q⟩
    | cont =>
      obtain ⟨σ', H', J', q⟩ := hsp
      exact ⟨σ', H', J'.ofTry ok, q⟩
    | ret u =>
      obtain ⟨v, σ', H', J', r, q⟩ := hsp
      exact ⟨v, σ', H', J'.ofTry ok, r, q⟩
end

/-! ### the def that catches -/
def bgC (p : Fin 20 → Pos) (j1 : Nat) (CSx : Str) : List Stmt :=
  [.Assign [.Name "caught" (p 0)] (.Constant .none j1 (p 1)) (p 2),
   .Try [.Expr (.Call (.Name "work" (p 3)) [] [] (p 4)) (p 5)] [.ExceptHandler (some (.Name CSx (p 6))) (some "error") [.Assign [.Name "caught" (p 7)] (.Name "error" (p 8)) (p 9)] (p 10)] [] [] (p 11),
   .Return (some (.Name "caught" (p 12))) (p 13)]
def nC : List Str := ["work", "caught", "error"]
/-- what leaves the lambda is caught -/
def EC (K : PySem.W.Frag) (CS : Addr) (Q : VK) : XK := fun cls d H' => PySem.W.exmOne K cls (.ref CS) = some true ∧ ∀ a, H' a = none → Q (.ref a) (upd H' a (ExC cls d a))
def TTcaught (K : PySem.W.Frag) (CS : Addr) : (XK → Hp → VK → Prop) → Hp → VK → Prop := fun tl H Q => tl (EC K CS Q) H fun _ H' => ∃ v, some (some V.non) = some (some v) ∧ Q v H'
theorem takes_len {X : Cx} {W : WX} (t : Takes X W) : Takes X (fun cls d σ H => σ.length = X.N.length → W cls d σ H) := fun u s' ⟨a, B, sI, pins, σ, H, cls, d, e, I, nb, up, sky, na, os, ag, w⟩ =>
  t u s' ⟨a, B, sI, pins, σ, H, cls, d, e, I, nb, up, sky, na, os, ag, w I.len⟩
theorem caught_gives {X : Cx} {x q CSx : Str} {sg : Scope} {g CS : Addr} {cdg : Value} {p : Fin 20 → Pos} {j1 : Nat} (hl1 : sg.names.lookup ("caught" : Str) = some .local) (hl2 : sg.names.lookup ("error" : Str) = some .local) (hge : sg.names.lookup CSx = some .globalImplicit) (hme : X.mg CSx = some (.ref CS)) (hde : (CSx == ("__debug__" : Str)) = false)
    (hs : ∀ e : Env, e.scope = sg → swapsWith (.Name "error" (p 8)) (some (.Name "caught" (p 7))) (p 9).line e = pure false) :
    GivesTo X nC x sg g cdg (bgC p j1 CSx) "work" q (TTcaught X.K CS) := by
  intro f c' s H Q tl act hc h
  have hgl : Gl (cxOf C8.CX0 X.prog X.w X.K X.mg X.base nC x sg g cdg X.A X.stack s H C8.E0).nox CSx := hge
  have t1 := ps_try_track (X := (cxOf C8.CX0 X.prog X.w X.K X.mg X.base nC x sg g cdg X.A X.stack s H C8.E0).nox) (c := .ref CS) (i := 2) (n := "error") (x := CSx) (np := p 6) (pos := p 11) (pos' := p 10) (body := [.Expr (.Call (.Name "work" (p 3)) [] [] (p 4)) (p 5)])
      (b₀ := .Assign [.Name "caught" (p 7)] (.Name "error" (p 8)) (p 9)) (suite := [])
      (tb := fun W D σ H => ∃ Ech : XK, (∀ cls d σ' H', σ'.length = 3 → Ech cls d H' → W cls d σ' H') ∧ σ[0]? = some (some (.ref f)) ∧ H c' = some (CodeO c' q) ∧ tl Ech H (fun _ H' => D.nx σ H'))
      (ts := fun a => tAsg (tVar 2) (gName 1))
      rfl rfl (show nC.Nodup by decide) rfl hl2 ⟨hgl, hde, .inl hme⟩ rfl (fun W pn xe tk => ?_) (fun a oe pn => ?_)
  · refine ⟨_, pss_cons (ps_set (i := 1) (x := "caught") (by show nC.Nodup; decide) rfl (.inl hl1) pe_non (by rfl) (.inr hl1)) (pss_cons t1 (pss_one (ps_ret (pe_var (i := 1) (x := "caught") rfl (.inl hl1))))), ?_⟩
    refine ⟨EC X.K CS Q, fun cls d σ' H' hl ⟨e1, e2⟩ => ⟨e1, fun a ha => ?_⟩, rfl, hc, ?_⟩
    · obtain ⟨x1, x2, x3, rfl⟩ : ∃ x1 x2 x3, σ' = [x1, x2, x3] := by
        match σ', hl with
        | [x1, x2, x3], _ => exact ⟨x1, x2, x3, rfl⟩
      exact ⟨.ref a, rfl, fun hn => ⟨.ref a, rfl, e2 a ha⟩⟩
    · exact h
  · refine ⟨fun pins s' σ H' D I h' => ?_⟩
    obtain ⟨Ech, hW, h1, h2, h3⟩ := h'
    have hp := act (fun cls d σ H => σ.length = 3 → W cls d σ H) pn xe Ech (p 3) (p 4) (takes_len tk) fun cls d σ' H' he hl => hW cls d σ' H' hl he
    have hq := pss_one (ps_expr (pos := p 5) hp)
    exact hq.run pins s' σ H' D I ⟨h1, h2, h3⟩
  · exact pss_one (ps_set (i := 1) (x := "caught") (by show nC.Nodup; decide) rfl (.inl hl1) (pe_var (i := 2) (x := "error") rfl (.inl hl2)) (hs _ rfl) (.inr hl1))
end DL

set_option maxHeartbeats 4000000
/-! DL10: the def that catches called with a lambda; isinstance of what it caught. -/
namespace DL
open PySem PySem.Spec PyProof.Rows L2 LamX
section
variable {X : Cx} {pins : List (Addr × Obj)} {σ : St} {H : Hp} {s : Shared}
/-- the lambda is made; all but its table is as it was -/
theorem lam_make3 {T : List (Addr × Str)} {c P : Addr} {params : Arguments} {body : Expr} {scope : Scope} {pos : Pos} {E : Value → Shared → Prop} {Q : Value → Shared → Prop} (I : Inv X pins σ H s) (TB : TabB X.base X.mg c P) (hcode : X.env.code = .ref c)
    (hm : (P, X.env.qual ++ "<lambda>") ∈ T) (hu : ∀ p ∈ T, p.1 = P → p.2 = X.env.qual ++ "<lambda>") (hT : Tabs T H) (hdef : defaultsOf params X.env = ([], [])) (hfree : ∀ y ∈ scope.names, y.2 = .free → ∃ c, X.env.cells.lookup y.1 = some c)
    (h : ∀ (f c' : Addr) (pm ctv : Value) (H1 : Hp) (s' : Shared), Inv X pins σ H1 s' → (∀ b o, H b = some o → b ≠ P → H1 b = some o) → Tabs T H1 →
      s'.heap.get? f = some (PySem.W.kla_obj "<lambda>" (X.env.qual ++ "<lambda>") params body scope (cloFrom X.env.cells scope.names []) pm c' ctv) → H1 f = none → f ∉ frs X.stack → H1 c' = some (CodeO c' (X.env.qual ++ "<lambda>")) → Q (.ref f) s') :
    wpAny (model X.prog X.w) X.A (eval (.Lambda params body scope pos) X.env) Q E s := by
  obtain ⟨ps, hP, ht, ha⟩ := hT _ hm
  refine PySem.W.kla_eval hdef ?_
  have hP' : s.heap.get? P = some { cls := .none, data := .fields ps } := I.hok P _ hP
  have nofr : ∀ f, s.heap.objs.size ≤ f → f ∉ frs X.stack := fun f hf z => by
    rcases List.mem_cons.mp (I.stkSub _ z) with e | e
    · have h1 := I.lt
      rw [← e] at h1
      exact Nat.lt_irrefl _ (Nat.lt_of_lt_of_le h1 hf)
    · exact I.nofs hf e
  cases hc : codeAmong pos ps.toList with
  | none =>
    refine PySem.W.kla_makeFunction (mg := X.mg) (c := c) (P := P) (ps := ps) (closure_ok hfree) I.ok.glob (I.mod.glob.keeps I.bk) hcode (TB.code.keeps I.bk) hP' ht hc TB.gP (TB.bm.keeps I.bk) fun c' ctv h' tk hx hge hlt hrec htb => ?_
    obtain ⟨c2, oc, vs, t, e2, hoc, hd, hv⟩ := hrec
    cases e2
    have hsz : s.heap.objs.size ≤ h'.objs.size := Nat.le_trans hge (Nat.le_of_lt hlt)
    have nC : H c' = none := I.hok.fresh hge
    have I1 := inv_table (t' := tk) (more := #[rawInt pos.line, rawInt pos.col, .ref c']) (h' := h'.push (PySem.W.kla_obj "<lambda>" (X.env.qual ++ "<lambda>") params body scope (cloFrom X.env.cells scope.names []) ((X.mg "__name__").getD .none) c' ctv)) I hP
      (fun b o hb e => Heap.get?_push_of_some _ (hx b o hb e)) (Heap.get?_push_of_some _ htb) hge ⟨oc, vs, t, Heap.get?_push_of_some _ hoc, hd, hv⟩
    obtain ⟨H1, eH⟩ : ∃ H1, H1 = upd (upd H P (.tbl (ps ++ #[rawInt pos.line, rawInt pos.col, .ref c']))) c' (CodeO c' (X.env.qual ++ "<lambda>")) := ⟨_, rfl⟩
    rw [← eH] at I1
    have k1 : ∀ b o, H b = some o → b ≠ P → H1 b = some o := fun b o e n => by
      rw [eH, upd_ne (ne_of_none e nC), upd_ne n]
      exact e
    have kc : ∀ b q, H b = some (CodeO b q) → H1 b = some (CodeO b q) := fun b q e => k1 b _ e fun z => by
      rw [z, hP] at e
      exact codeO_ne ps (Option.some.inj e).symm
    have atP : H1 P = some (.tbl (ps ++ #[rawInt pos.line, rawInt pos.col, .ref c'])) := by rw [eH, upd_ne (ne_of_none hP nC), upd_same]
    have atC : H1 c' = some (CodeO c' (X.env.qual ++ "<lambda>")) := by rw [eH, upd_same]
    have n1 : H1 h'.objs.size = none := by
      have n1 : h'.objs.size ≠ c' := Nat.ne_of_gt hlt
      have n2 : h'.objs.size ≠ P := Nat.ne_of_gt (Nat.lt_of_lt_of_le (Heap.lt_size hP') hsz)
      rw [eH, upd_ne n1, upd_ne n2]
      exact I.hok.fresh hsz
    refine h h'.objs.size c' ((X.mg "__name__").getD .none) ctv _ _ I1 k1 (fun p hp => ?_) (Heap.get?_push_size _ rfl) n1 (nofr _ hsz) atC
    by_cases hb : p.1 = P
    · rw [hu p hp hb, hb]
      have eL : (ps ++ #[rawInt pos.line, rawInt pos.col, .ref c']).toList = ps.toList ++ [rawInt pos.line, rawInt pos.col, .ref c'] := by simp
      refine ⟨_, atP, by rw [eL]; exact PySem.TriplesOk_snoc _ _ _ _ ht, fun p' cv hcv => ?_⟩
      rw [eL] at hcv
      rcases among_app _ ht hcv with z | z
      · obtain ⟨c0, e1, e2⟩ := ha p' cv z
        exact ⟨c0, e1, kc _ _ e2⟩
      · exact ⟨c', z, atC⟩
    · obtain ⟨ps', a1, a2, a3⟩ := hT p hp
      refine ⟨ps', k1 _ _ a1 hb, a2, fun p' cv hcv => ?_⟩
      obtain ⟨c0, e1, e2⟩ := a3 p' cv hcv
      exact ⟨c0, e1, kc _ _ e2⟩
  | some cv =>
    obtain ⟨c', e, hco⟩ := ha pos cv hc
    subst e
    refine PySem.W.kla_makeFunctionHit (mg := X.mg) (c := c) (P := P) (ps := ps) (closure_ok hfree) I.ok.glob (I.mod.glob.keeps I.bk) hcode (TB.code.keeps I.bk) hP' ht hc (TB.bm.keeps I.bk) fun ctv h' tk hx hsz => ?_
    have I1 : Inv X pins σ H { s with heap := h'.push (PySem.W.kla_obj "<lambda>" (X.env.qual ++ "<lambda>") params body scope (cloFrom X.env.cells scope.names []) ((X.mg "__name__").getD .none) c' ctv), toks := tk } := I.kept fun b o e => Heap.get?_push_of_some _ (hx b o e)
    exact h h'.objs.size c' ((X.mg "__name__").getD .none) ctv H _ I1 (fun b o e _ => e) hT (Heap.get?_push_size _ rfl) (I.hok.fresh hsz) (nofr _ hsz) hco
end
/-- the reading of x(lambda: body) -/
def tCaught (T : List (Addr × Str)) (P : Addr) (K : PySem.W.Frag) (CS : Addr) (t : XK → TE) : TE := fun σ H Q => Tabs T H ∧ ∀ H1, (∀ b o, H b = some o → b ≠ P → H1 b = some o) → Tabs T H1 → TTcaught K CS (fun E H' Q' => t E σ H' Q') H1 Q
section
variable {X : Cx}
theorem pe_caught {T : List (Addr × Str)} {x CSx : Str} {g c P CS : Addr} {k : Nat} {st : Stmt} {fd : FuncData} {params : Arguments} {body : Expr} {scope : Scope} {t : XK → TE} {p lpos pos : Pos} {pC : Fin 20 → Pos} {jC : Nat} (hg : Gl X x) (hm : X.mg x = some (.ref g)) (F : Fun X.K x x st g fd)
    (hb : L2.Binds X.K fd ["work"] []) (Sg : FnScope nC ["work"] (defScope st)) (hbd : defBody st = bgC pC jC CSx) (hl0 : (defScope st).names.lookup ("work" : Str) = some .local) (hl1 : (defScope st).names.lookup ("caught" : Str) = some .local) (hl2 : (defScope st).names.lookup ("error" : Str) = some .local) (hge : (defScope st).names.lookup CSx = some .globalImplicit) (hme : X.mg CSx = some (.ref CS)) (hde : (CSx == ("__debug__" : Str)) = false)
    (hsw : ∀ e : Env, e.scope = defScope st → swapsWith (.Name "error" (pC 8)) (some (.Name "caught" (pC 7))) (pC 9).line e = pure false)
    (TB : TabB X.base X.mg c P) (hcode : X.env.code = .ref c) (hmT : (P, X.env.qual ++ "<lambda>") ∈ T) (hu : ∀ p ∈ T, p.1 = P → p.2 = X.env.qual ++ "<lambda>") (hr : Room (k + 2) X.A) (L : LamS X.env.scope scope) (hdef : defaultsOf params X.env = ([], []))
    (hbind : ∀ (q : Str) (cl : List (Str × Addr)) (pm cv ctv : Value), bindArgs (PySem.W.kla_fn "<lambda>" q params body scope cl pm cv ctv) ⟨[], []⟩ = pure [])
    (hbody : ∀ (A : Around) (outer : List Env) (s : Shared) (H : Hp) (E : XK) (f c' : Addr), Room k (A.deeper (lamEnv X scope s.heap.objs.size f c')) → PE (lamCx X A outer s H E scope f c') body (t E))
    (hdb : (x == ("__debug__" : Str)) = false := by decide) :
    PE X (.Call (.Name x p) [.Lambda params body scope lpos] [] pos) (tCaught T P X.K CS t) := by
  refine ⟨fun pins s σ H Q I h => ?_⟩
  obtain ⟨hT, h⟩ := h
  obtain ⟨oc, od, kV, doc, pm, an, cdv, ct, osl, efd, lk, hcd⟩ := F.ex
  subst efd
  rw [hbd] at lk hb
  refine wpAny_Call_Name_kw (ld_glob I hg hm ?_ hdb)
  refine PySem.W.callWith_K (h₀ := X.base) I.ok.mod.kin F.kp ?_ (by rfl) (by rfl)
  show wpAny _ _ (spliced ((false, eval (.Lambda params body scope lpos) X.env) :: backTo pos (starEach [] X.env))) _ _ s
  refine Calls.spliced_cons (lam_make3 I TB hcode hmT hu hT hdef (L.has I.ok) fun f c' pm' ctv H1 s' I1 eN T1 hf hfn hfr hco => ?_)
  refine Calls.spliced_nil ⟨I1.kIn, ?_⟩
  have rc : codeAny (model X.prog X.w) X.A (.call (.ref g) ⟨[.ref f], []⟩) (CR C8.CX0 X.stack X.prog X.w H1 s' Q C8.E0) s' := by
    refine run_ofS (N := nC) (ps := ["work"]) (us := [.ref f]) (vs := [.ref f]) lk hcd Sg hr I1.env0 (hb s' [.ref f] I1.kIn rfl) (.cons rfl .nil) rfl fun hr' => ?_
    obtain ⟨t', ht', hq'⟩ := caught_gives (X := X) (q := X.env.qual ++ "<lambda>") (g := g) (cdg := cdv) (x := x) (p := pC) (j1 := jC) hl1 hl2 hge hme hde hsw f c' s' H1 Q (fun E H' Q' => t E σ H' Q') (fun W pn xe E p1 p2 tk hW => pe_act (i := 0) (a := "work") I1 L hf hfn hfr (hbind _ _ _ _ _) tk hW hr' (fun A outer s H hr2 => hbody A outer s H E f c' hr2) rfl (.inl hl0)) hco (h H1 eN T1)
    exact ⟨t', ht'.nox, hq'⟩
  refine wpAny_call (codeAny_mono rc fun r s2 hq => ?_)
  cases r with
  | error e => exact (show False from hq).elim
  | ok fl =>
    cases fl with
    | ret u => exact I1.after hq
    | next => exact False.elim hq
    | brk => exact False.elim hq
    | cont => exact False.elim hq
end
end DL

set_option maxHeartbeats 4000000
/-! DL11: pure readings of the def that catches, of isinstance over what it caught, of {}. -/
namespace DL
open PySem PySem.Spec PyProof.Rows L2 LamX
def hid : PV → PV
  | .own _ => .no
  | p => p
def hide (ps : List PV) : List PV := ps.map hid
theorem hide_get {ps : List PV} {i : Nat} {pv : PV} (h : (hide ps)[i]? = some pv) : pv = .no ∨ ∃ d, pv = .val d ∧ ps[i]? = some (.val d) := by
  unfold hide at h
  rw [List.getElem?_map] at h
  cases q : ps[i]? with
  | none => rw [q] at h; cases h
  | some p =>
    rw [q] at h
    have h := Option.some.inj h
    cases p with
    | no => exact .inl h.symm
    | own d => exact .inl h.symm
    | val d => exact .inr ⟨d, h.symm, rfl⟩
/-- x(lambda: e): what it caught -/
def pCaught (mg : Str → Option Value) (names : List Str) (pe : PTE) : PTE := fun ps Q er => pe (hide ps) (fun _ _ => Q (.v .non) ps) (fun e => (∃ x ∈ names, mg x = some (.ref e.C)) ∧ Q (.v (.exc e)) ps)
section
variable {K : PySem.W.Frag} {W : WX} {da : GE}
theorem Rel.hidden {B : Base} {F : Addr → Prop} {ps : List PV} {σ : St} {H : Hp} (R : Rel K da B F ps σ H) : Rel K da ⟨H, F, F, H⟩ F (hide ps) σ H := by
  have no : ∀ {i : Nat} {d : D}, (hide ps)[i]? = some (.own d) → False := fun {i d} h => by
    rcases hide_get h with e | ⟨d, e, _⟩ <;> cases e
  refine ⟨by unfold hide; rw [List.length_map]; exact R.len, fun i pv h => ?_, fun i j di dj a h => (no h).elim, R.draw, fun _ _ h _ => h, fun _ h => h, fun _ _ => rfl, fun _ h _ => h, fun a ⟨i, d, h, _⟩ => (no h).elim, R.dom, fun a h => R.draw.fix h⟩
  rcases hide_get h with e | ⟨d, e, q⟩
  · subst e; trivial
  · subst e; exact R.slot i _ q
theorem sim_caught {mg : Str → Option Value} {names : List Str} {pe : PTE} {P CS : Addr} (hP : ∃ q, (P, q) ∈ da.T) (hex : ∀ x ∈ names, ∀ C, mg x = some (.ref C) → PySem.W.exmOne K (.ref C) (.ref CS) = some true) :
    SimE K W da (pCaught mg names pe) (tCaught da.T P K CS fun E => tOf K (bW E) da pe) := by
  intro B F ps σ H Q PQ er R hp post he
  obtain ⟨q, hP⟩ := hP
  refine ⟨fun p hp => (R.draw.2 p hp).2, fun H1 k1 T1 => ?_⟩
  have neP : ∀ a, Fix da a → a ≠ P := fun a h z => h.2 _ hP z.symm
  have kF : ∀ a, F a → H1 a = H a := fun a h => by
    obtain ⟨o, e⟩ := some_ne (R.dom a h)
    rw [e]; exact k1 a o e (neP a (R.fDa h))
  have k0 : Kept K da F H F H1 := by
    refine ⟨fun a o h n => k1 a o h (neP a n), fun _ h => h, fun _ h _ => h, fun a h => by rw [kF a h]; exact R.dom a h, ⟨fun a e => ?_, fun p hp => ⟨(R.draw.2 p hp).1, T1 p hp⟩⟩⟩
    obtain ⟨nF, w, c, ca, cells, h1, h2, h3, h4⟩ := R.draw.1 a e
    refine ⟨nF, w, c, ca, cells, k1 a _ h1 fun z => ?_, h2, (kF ca h2).trans h3, h4⟩
    obtain ⟨_, tps, e1, _⟩ := R.draw.2 _ hP
    rw [z] at h1
    rw [e1] at h1; cases h1
  obtain ⟨R1, S1⟩ := R.after k0
  refine ⟨⟨H1, F, F, H1⟩, F, hide ps, _, _, R1.hidden, hp, fun F' H' ps' v r R2 _ _ q => ?_, fun e F' H' ps' dd R2 her herr => ?_⟩
  · obtain ⟨R3, S3⟩ := R1.after (R2.kept fun _ h => h)
    exact ⟨.non, rfl, post F' H' ps .non (.v .non) R3 (S1.trans S3) .non q⟩
  · obtain ⟨⟨x, hx, hm⟩, q⟩ := her
    refine ⟨hex x hx _ hm, fun a ha => ?_⟩
    obtain ⟨R3, S3⟩ := R1.after (R2.kept fun _ h => h)
    have E := ext_newF (u := ExC (.ref e.C) dd a) R3.dom ha
    exact post _ _ ps (.ref a) (.v (.exc e)) (R3.ext E) ((S1.trans S3).trans E.stp) (Den.exc (.inr rfl) upd_same (herr.mono E.sub fun b hb => E.eqF R3.dom hb)) q
end

/-! ### isinstance -/
/-- a class whose caught instances isinstance asks rightly -/
structure ExcI (K : PySem.W.Frag) (C : Addr) : Prop where
  hl : (PySem.W.clsIn K C).isSome = true
  hg : PySem.W.findIn K (.ref C) "__getattribute__" = some (some (.builtin "BaseException.__getattribute__"))
  hk : ∃ gt, PySem.W.findIn K (.ref C) "__getattr__" = some gt
  hs : PySem.W.subIn K (.ref C) (.type "BaseException") = some true
  ha : PySem.W.findIn K (.ref C) "__class__" = some (some (.builtin "object.__class__"))
  hn : PySem.W.specialIn K (.builtin "object.__class__") "__get__" = some (some (.builtin "getset_descriptor.__get__"))
  ht : PySem.W.takesIn K (.builtin "object.__class__") = some true
  hm : PySem.W.mroIn K C (.type "object") = some true
  hi : PySem.W.kitOne K (.ref C) (.ref C) = some true
theorem ns1_there {h : Heap} {a : Addr} {m : Str → Option Value} (n : h.Ns1 a m) : ∃ o, h.get? a = some o := by
  obtain ⟨o, _, _, e, _⟩ := n
  exact ⟨o, e⟩
def oIsiE (mg : Str → Option Value) (x : Str) : Op2 := fun d e k => ∃ er C, d = .exc er ∧ e = .ref C ∧ er.C = C ∧ mg x = some (.ref C) ∧ k (.v (.bl true))
def rIsiE (mg : Str → Option Value) (x : Str) : List V → Hp → VK → Prop := fun xs H Q => ∃ a C dd, xs = [.ref a, .ref C] ∧ mg x = some (.ref C) ∧ H a = some (ExC (.ref C) dd a) ∧ (∀ d, dd = some d → ∃ fs, H d = some (.xd fs)) ∧ Q (.bl true) H
theorem call_isiE {X : Cx} {mg : Str → Option Value} {x : Str} (hx : ∀ C, mg x = some (.ref C) → ExcI X.K C) : CallR X (.builtin "isinstance") (rIsiE mg x) := by
  intro pins s σ H xs us Q I r h
  obtain ⟨a, C, dd, rfl, hm, hH, hdd, q⟩ := h
  cases r with
  | cons rx rr =>
    cases rr with
    | cons rt rr =>
      cases rr
      cases rx
      cases rt
      have T := hx C hm
      obtain ⟨⟨oe, vs, hget, hz, hv⟩, _, _⟩ := I.hok a _ hH
      obtain ⟨od, J⟩ : ∃ od, PySem.W.InstAt s.heap a oe C od := by
        obtain ⟨oc, odi, oda, osl⟩ := oe
        obtain ⟨h1, h2⟩ := hz
        dsimp only at h1 h2 hv
        subst h1 h2 hv
        cases odi with
        | none => exact ⟨none, hget, rfl, rfl, trivial⟩
        | some d =>
          obtain ⟨fs, e⟩ := hdd d rfl
          obtain ⟨mA, hn, _⟩ := I.hok d _ e
          obtain ⟨od, e2⟩ := ns1_there hn
          exact ⟨some od, hget, rfl, rfl, e2⟩
      obtain ⟨gt, hk⟩ := T.hk
      exact PySem.W.kia_one (PySem.W.kitx_exc T.hl T.hg hk T.hs T.ha T.hn T.ht T.hm) I.kIn J T.hi (fun z => nomatch z) fun tk => ⟨.bl true, H, I.kept (t' := tk) fun _ _ z => z, rfl, q⟩
theorem simO_isiE {K : PySem.W.Frag} {mg : Str → Option Value} {x : Str} : SimOp K (r2 (rIsiE mg x)) (oIsiE mg x) := by
  intro F H v w d e Q k dom dx dy hop post
  obtain ⟨er, C, rfl, rfl, e1, hm, q⟩ := hop
  have dy := dy.refE
  subst dy
  cases (show Den K F H v (.exc er) from dx) with
  | exc f h1 h2 =>
    rename_i a dd
    subst e1
    refine ⟨a, _, dd, rfl, hm, h1, fun d hd => ?_, ret_v dom (.bl _) post q⟩
    unfold ErrAt at h2
    split at h2
    · rw [hd] at h2; cases h2
    · obtain ⟨d', e3, f', e4⟩ := h2
      rw [e3] at hd
      cases hd
      exact ⟨_, e4⟩
section
variable {X : Cx} {W : WX} {da : GE} {a b : Expr} {pa pb : PTE} {p pos : Pos}
theorem d_isiE {x : Str} (hx : ∀ C, X.mg x = some (.ref C) → ExcI X.K C) (hm : X.mg "isinstance" = none) (ha : DE X W da a pa) (hb : DE X W da b pb) (hg : Gl X "isinstance" := by rfl)
    (hs : starEach [a, b] X.env = (false, eval a X.env) :: starEach [b] X.env := by rfl) (hs2 : starEach [b] X.env = (false, eval b X.env) :: starEach [] X.env := by rfl) (hpl : (backTo pos (starEach [b] X.env)).any (·.1) = false := by rfl) : DE X W da (.Call (.Name "isinstance" p) [a, b] [] pos) (pBin (oIsiE X.mg x) pa pb) := d_cb2 (call_isiE hx) simO_isiE hm (by decide +kernel) ha hb hg (by decide) (by decide) hs hs2 hpl
end
end DL

set_option maxHeartbeats 4000000
/-! DL12: by syntax: a call of what a slot holds, the def that catches called, {}. -/
namespace DL
open PySem PySem.Spec PyProof.Rows L2 LamX
section
variable {X : Cx} {W : WX} {da : GE} {a b e : Expr} {es : List Expr} {pa pb : PTE} {pr : PTA} {p pos : Pos}
/-! ### a call of what a slot holds -/
def pCallV (da : GE) (mg : Str → Option Value) (i : Nat) (cs : List (Str × Nat × PSpec)) (pr : PTA) : PTE := fun ps Q er => ∃ f, ps[i]? = some (.val (.ref f)) ∧ ∃ c ∈ cs, mg c.1 = some (.ref f) ∧ pCall da c.2.2 pr ps Q er
def tCallV (K : PySem.W.Frag) (W : WX) (mg : Str → Option Value) (i : Nat) (cs : List (Str × Nat × PSpec)) (t : TA) : TE := fun σ H Q => ∃ f, σ[i]? = some (some (.ref f)) ∧ ∃ c ∈ cs, mg c.1 = some (.ref f) ∧ t σ H fun vs H1 => spOf K c.2.1 c.2.2 vs H1 Q (WE W σ)
theorem d_callV (i : Nat) {x : Str} {k' : Nat} {cs : List (Str × Nat × PSpec)} (G : ∀ c ∈ cs, ∃ k ps st, k ≤ k' ∧ ps.length = c.2.1 ∧ Kn X.prog X.w X.K X.mg X.base c.1 k ps st c.2.2) (hr : Room k' X.A) (tk : Takes X W) (ha : DA X W da (e :: es) pr) (hN : X.N[i]? = some x := by rfl) (hv : Vis X.env.scope x := by first | exact Or.inl rfl | exact Or.inr (Or.inl rfl) | exact Or.inr (Or.inr rfl)) (hdb : (x == ("__debug__" : Str)) = false := by decide) (hcd : (x == ("__classdict__" : Str)) = false := by decide)
    (he : starEach (e :: es) X.env = (false, eval e X.env) :: starEach es X.env := by rfl) (hpl : (backTo pos (starEach es X.env)).any (·.1) = false := by rfl) : DE X W da (.Call (.Name x p) (e :: es) [] pos) (pCallV da X.mg i cs pr) := by
  obtain ⟨t, a1, a2⟩ := ha
  refine ⟨tCallV X.K W X.mg i cs t, ⟨fun pins s σ H Q I h => ?_⟩, ?_⟩
  · obtain ⟨f, hs, c, hc, hm, ht⟩ := h
    obtain ⟨k, ps, st, hk, hl, KN⟩ := G c hc
    obtain ⟨f', fd, hm', F, hb, G2⟩ := KN.ex
    rw [hm] at hm'
    cases hm'
    rw [← hl] at ht
    refine wpAny_Call_Name_kw (thn ((pe_var (pos := p) hN hv hdb hcd).run pins s σ H (fun v H1 => v = .ref f ∧ H1 = H) I ⟨.ref f, hs, rfl, rfl⟩) fun u s1 ⟨v, H1, I1, r1, q1⟩ => ?_)
    obtain ⟨rfl, rfl⟩ := q1
    cases r1
    refine PySem.W.callWith_K (h₀ := X.base) I.ok.mod.kin F.kp (thn (a1.run pos pins s1 σ _ _ I1 ht) fun us s2 ⟨vs, H2, I2, r, q⟩ => ⟨I2.kIn, ?_⟩) he hpl
    exact run_fnS G2 (hr.mono hk) hb (passAt tk σ) I2 r q
  · intro B F ps σ H Q PQ er R hp post he
    obtain ⟨f, h1, c, hc, hm, hp⟩ := hp
    obtain ⟨v, e1, den⟩ := R.slot i _ h1
    obtain ⟨k, qs, st, hk, hl, KN⟩ := G c hc
    rw [den.refE] at e1
    refine ⟨f, e1, c, hc, hm, ?_⟩
    have hlen : ∀ da ds Q er, c.2.2 da ds Q er → ds.length = c.2.1 := fun da ds Q er h => (KN.len da ds Q er h).trans hl
    exact sim_call hlen a2 B F ps σ H Q PQ er R hp post he
/-! ### the def that catches -/
structure CatT (K : PySem.W.Frag) (mg : Str → Option Value) (names : List Str) : Prop where
  ex : ∃ (g CS : Addr) (st : Stmt) (fd : FuncData) (pC : Fin 20 → Pos) (jC : Nat), mg "_law_caught" = some (.ref g) ∧ Fun K "_law_caught" "_law_caught" st g fd ∧ L2.Binds K fd ["work"] [] ∧ FnScope nC ["work"] (defScope st) ∧ defBody st = bgC pC jC "PowerError" ∧
    ((defScope st).names.lookup ("work" : Str) = some .local ∧ (defScope st).names.lookup ("caught" : Str) = some .local ∧ (defScope st).names.lookup ("error" : Str) = some .local ∧ (defScope st).names.lookup ("PowerError" : Str) = some .globalImplicit) ∧ mg "PowerError" = some (.ref CS) ∧
    (∀ e : Env, e.scope = defScope st → swapsWith (.Name "error" (pC 8)) (some (.Name "caught" (pC 7))) (pC 9).line e = pure false) ∧ ∀ x ∈ names, ∀ C, mg x = some (.ref C) → PySem.W.exmOne K (.ref C) (.ref CS) = some true
/-- the table of the lambda's maker stands in da.T -/
def TabIn (T : List (Addr × Str)) (P : Addr) (q : Str) : Prop := (P, q) ∈ T ∧ ∀ p ∈ T, p.1 = P → p.2 = q
def pLam (da : GE) (P : Addr) (q : Str) (mg : Str → Option Value) (names : List Str) (pe : PTE) : PTE := fun ps Q er => TabIn da.T P q ∧ pCaught mg names pe ps Q er
theorem d_caught {names : List Str} {q : Str} {c P : Addr} {k k' : Nat} {params : Arguments} {body : Expr} {scope : Scope} {lpos : Pos} {pe : PTE} (C : CatT X.K X.mg names) (TB : TabB X.base X.mg c P) (hcode : X.env.code = .ref c) (hr : Room k' X.A) (hk : k + 2 ≤ k')
    (L : LamS X.env.scope scope) (hbody : ∀ (A : Around) (outer : List Env) (s : Shared) (H : Hp) (E : XK) (f c' : Addr), Room k (lamCx X A outer s H E scope f c').A → Takes (lamCx X A outer s H E scope f c') (bW E) → DE (lamCx X A outer s H E scope f c') (bW E) da body pe)
    (hq : X.env.qual ++ "<lambda>" = q := by rfl) (hdef : defaultsOf params X.env = ([], []) := by rfl)
    (hbind : ∀ (q : Str) (cl : List (Str × Addr)) (pm cv ctv : Value), bindArgs (PySem.W.kla_fn "<lambda>" q params body scope cl pm cv ctv) ⟨[], []⟩ = pure [] := by exact fun _ _ _ _ _ => rfl) (hg : Gl X "_law_caught" := by rfl) :
    DE X W da (.Call (.Name "_law_caught" p) [.Lambda params body scope lpos] [] pos) (pLam da P q X.mg names pe) := by
  obtain ⟨g, CS, st, fd, pC, jC, hm, F, hb, Sg, hbd, ⟨hl0, hl1, hl2, hge⟩, hme, hsw, hex⟩ := C.ex
  subst hq
  refine ⟨fun σ H Q => TabIn da.T P (X.env.qual ++ "<lambda>") ∧ tCaught da.T P X.K CS (fun E => tOf X.K (bW E) da pe) σ H Q, ⟨fun pins s σ H Q I h => ?_⟩, ?_⟩
  · obtain ⟨⟨hT, hu⟩, h⟩ := h
    exact (pe_caught hg hm F hb Sg hbd hl0 hl1 hl2 hge hme (by decide) hsw TB hcode hT hu (hr.mono hk) L hdef hbind (fun A outer s H E f c' hr2 => (hbody A outer s H E f c' hr2 (takes_of rfl rfl rfl rfl)).can) (by decide)).run pins s σ H Q I h
  · intro B F ps σ H Q PQ er R hp post he
    exact ⟨hp.1, sim_caught ⟨_, hp.1.1⟩ hex B F ps σ H Q PQ er R hp.2 post he⟩
/-! ### {} -/
def pDict0 : PTE := fun ps Q er => Q (.f (.dic [] [])) ps
theorem d_dict0 : DE X W da (.Dict [] [] pos) pDict0 := by
  refine ⟨_, pe_dnewK, ?_⟩
  intro B F ps σ H Q PQ er R hp post he p hn
  exact post F _ ps _ (.f (.dic [] [])) (R.ext (ext_new R.dom hn)) (Ext.stp (ext_new R.dom hn)) ⟨p, rfl, hn, notF R.dom hn, [], upd_same, rfl, .nil⟩ hp
end
end DL

set_option maxHeartbeats 4000000
/-! DL13: the draws: what _law_mixed and _law_take do to the draws' dict. -/
namespace DL
open PySem PySem.Spec PyProof.Rows L2 LamX
abbrev kW : Key := .inr "whole"
abbrev kC : Key := .inr "cells"
abbrev kN : Key := .inr "count"
def dr (w : Int) (ca : Addr) (c : Int) : List (Key × V) := [(kW, .int w), (kC, .ref ca), (kN, .int c)]
theorem kWC : ¬ kW = kC := by decide
theorem kWN : ¬ kW = kN := by decide
theorem kCN : ¬ kC = kN := by decide
theorem kCW : ¬ kC = kW := by decide
theorem kNW : ¬ kN = kW := by decide
theorem dr_w (w : Int) (ca : Addr) (c : Int) : some (.int w) = valV (dr w ca c) kW := by unfold dr; rw [valV_pos rfl]
theorem dr_c (w : Int) (ca : Addr) (c : Int) : some (.ref ca) = valV (dr w ca c) kC := by unfold dr; rw [valV_neg kWC, valV_pos rfl]
theorem dr_n (w : Int) (ca : Addr) (c : Int) : some (.int c) = valV (dr w ca c) kN := by unfold dr; rw [valV_neg kWN, valV_neg kCN, valV_pos rfl]
theorem put_w (w : Int) (ca : Addr) (c x : Int) : putK (dr w ca c) kW (.int x) = dr x ca c := by unfold dr putK; simp [show ¬ (("cells" : Str) = "whole") by decide, show ¬ (("count" : Str) = "whole") by decide]
theorem put_n (w : Int) (ca : Addr) (c x : Int) : putK (dr w ca c) kN (.int x) = dr w ca x := by unfold dr putK; simp [show ¬ (("whole" : Str) = "count") by decide, show ¬ (("cells" : Str) = "count") by decide]
theorem dg_w {H : Hp} {a ca : Addr} {w c : Int} (e : H a = some (.dK (dr w ca c))) : DGet H a (.str "whole") (some (.int w)) := .inl ⟨_, kW, .inl e, rfl, dr_w w ca c⟩
theorem dg_c {H : Hp} {a ca : Addr} {w c : Int} (e : H a = some (.dK (dr w ca c))) : DGet H a (.str "cells") (some (.ref ca)) := .inl ⟨_, kC, .inl e, rfl, dr_c w ca c⟩
theorem dg_n {H : Hp} {a ca : Addr} {w c : Int} (e : H a = some (.dK (dr w ca c))) : DGet H a (.str "count") (some (.int c)) := .inl ⟨_, kN, .inl e, rfl, dr_n w ca c⟩
theorem dp_w {H : Hp} {a ca : Addr} {w c x : Int} (e : H a = some (.dK (dr w ca c))) : DPut H a (.str "whole") (.int x) (upd H a (.dK (dr x ca c))) := .inl ⟨_, kW, e, rfl, (show 3 < sizeLine by decide), by rw [put_w]⟩
theorem dp_n {H : Hp} {a ca : Addr} {w c x : Int} (e : H a = some (.dK (dr w ca c))) : DPut H a (.str "count") (.int x) (upd H a (.dK (dr w ca x))) := .inl ⟨_, kN, e, rfl, (show 3 < sizeLine by decide), by rw [put_n]⟩
def mstep (f x : Int) : Int := ((f + x) * 1099511628211).fmod (2 ^ 61 - 1) + (((f + x) * 1099511628211).fmod (2 ^ 61 - 1)).fdiv (2 ^ 17)
def mixV (c : Int) (cells : List Int) : Int := (cells ++ [c]).foldl mstep (1469598103934665603 + 97 * c)
/-- all but a and what is new stays -/
def Beyond (a : Addr) (H H' : Hp) : Prop := ∀ b o, b ≠ a → H b = some o → H' b = some o
theorem Beyond.trans {a : Addr} {H H1 H2 : Hp} (h : Beyond a H H1) (g : Beyond a H1 H2) : Beyond a H H2 := fun b o n e => g b o n (h b o n e)
theorem Beyond.upd {a : Addr} {H : Hp} {o : HO} : Beyond a H (upd H a o) := fun b u n e => by rw [upd_ne n]; exact e
theorem Beyond.new {a p : Addr} {H : Hp} {o : HO} (h : H p = none) : Beyond a H (L2.upd H p o) := fun b u n e => by rw [upd_ne (ne_of_none e h)]; exact e
def spMixed : Sp := fun vs H Q _ => ∃ (a : Addr) (w c : Int) (ca : Addr) (cells : List Int), vs = [.ref a] ∧ H a = some (.dK (dr w ca c)) ∧ H ca = some (.lst (cells.map V.int)) ∧ cells.length < 1000 ∧
  ∀ H', Beyond a H H' → H' a = some (.dK (dr w ca (c + 1))) → Q (.int (mixV (c + 1) cells)) H'
theorem CDivS {i j : Int} (h : j ≠ 0 ∧ j.natAbs.log2 < 9000) : CDivB i j := h

/-- the reading of _law_mixed -/
def tMixed (K : PySem.W.Frag) : TS :=
  tSeq (sDPut (tVar 0) (tC (.str "count")) (tOp (rI0 fun i j => .int (i + j)) (tDGet (tVar 0) (tC (.str "count"))) (tC (.int 1))))
  (tSeq (tAsg (tOp (rI0 fun i j => .int (i + j)) (tC (.int 1469598103934665603)) (tOp (rI CMul fun i j => .int (i * j)) (tC (.int 97)) (tDGet (tVar 0) (tC (.str "count"))))) (gName 1))
  (tSeq (tFor (iList K (tOp rCat (tDGet (tVar 0) (tC (.str "cells"))) (tLst (tCons (tDGet (tVar 0) (tC (.str "count"))) tNil)))) (gName 2)
    (tSeq (tAsg (tOp (rI (fun _ j => j ≠ 0) fun i j => .int (i.fmod j)) (tCB (fun xs H Q => (∃ i, xs = [.int i] ∧ Q (.int i) H) ∨ ∃ k, xs = [.bl k] ∧ Q (.int (if k then 1 else 0)) H) (tCons (tOp (rI CMul fun i j => .int (i * j)) (tOp (rI0 fun i j => .int (i + j)) (tVar 1) (tVar 2)) (tC (.int 1099511628211))) tNil))
        (tOp (rI0 fun i j => .int (i - j)) (tOp (rI CPow fun i j => .int (i ^ j.toNat)) (tC (.int 2)) (tC (.int 61))) (tC (.int 1)))) (gName 1))
      (tAsg (tOp (rI0 fun i j => .int (i + j)) (tVar 1) (tOp (rI CDivB fun i j => .int (i.fdiv j)) (tVar 1) (tOp (rI CPow fun i j => .int (i ^ j.toNat)) (tC (.int 2)) (tC (.int 17))))) (gName 1))))
  (tRet (tVar 1))))
theorem mixed_law {K : PySem.W.Frag} {vs : List V} {H : Hp} {Q : VK} {E : XK} {X : St → Hp → Prop} (h : spMixed vs H Q E) : tMixed K { nx := X, rt := Q } (L2.start ["draw", "found", "cell"] vs) H := by
  obtain ⟨a, w, c, ca, cells, rfl, hA, hC, hlen, post⟩ := h
  have ne : ca ≠ a := fun z => by rw [z, hA] at hC; cases hC
  refine ⟨.ref a, rfl, a, .int c, rfl, dg_n hA, c, 1, rfl, rfl, .ref a, rfl, a, _, rfl, dp_n hA, ?_⟩
  obtain ⟨H1, eH1⟩ : ∃ H1, H1 = upd H a (.dK (dr w ca (c + 1))) := ⟨_, rfl⟩
  rw [← eH1]
  have hA1 : H1 a = some (.dK (dr w ca (c + 1))) := by rw [eH1, upd_same]
  have hC1 : H1 ca = some (.lst (cells.map V.int)) := by rw [eH1, upd_ne ne]; exact hC
  have b1 : Beyond a H H1 := by rw [eH1]; exact Beyond.upd
  refine ⟨.ref a, rfl, a, .int (c + 1), rfl, dg_n hA1, 97, c + 1, rfl, rfl, .inl ⟨by decide, by decide⟩, 1469598103934665603, 97 * (c + 1), rfl, rfl, ?_⟩
  refine ⟨.ref a, rfl, a, .ref ca, rfl, dg_c hA1, .ref a, rfl, a, .int (c + 1), rfl, dg_n hA1, (show 1 ≤ sizeLine by decide), fun p hp => ?_⟩
  refine ⟨ca, p, _, _, rfl, rfl, upd_keep hp hC1, upd_same, ?_, fun q hq => ⟨q, rfl, ⟨_, .of upd_same⟩, ?_⟩⟩
  · rw [List.length_map]
    show cells.length + 1 ≤ sizeLine
    have : (1000 : Nat) ≤ sizeLine := by decide
    omega
  have b3 : Beyond a H (upd (upd H1 p (.lst [.int (c + 1)])) q (.lst (cells.map V.int ++ [.int (c + 1)]))) := b1.trans ((Beyond.new hp).trans (Beyond.new hq))
  have hA3 : upd (upd H1 p (.lst [.int (c + 1)])) q (.lst (cells.map V.int ++ [.int (c + 1)])) a = some (.dK (dr w ca (c + 1))) := upd_keep hq (upd_keep hp hA1)
  have hq3 : upd (upd H1 p (.lst [.int (c + 1)])) q (.lst (cells.map V.int ++ [.int (c + 1)])) q = some (.lst (cells.map V.int ++ [.int (c + 1)])) := upd_same
  revert b3 hA3 hq3
  generalize upd (upd H1 p (.lst [.int (c + 1)])) q (.lst (cells.map V.int ++ [.int (c + 1)])) = H3
  intro b3 hA3 hq3
  have em : cells.map V.int ++ [V.int (c + 1)] = (cells ++ [c + 1]).map V.int := by simp
  rw [em] at hq3
  generalize hl : cells ++ [c + 1] = l at hq3
  have fin : ∀ f, f = l.foldl mstep (1469598103934665603 + 97 * (c + 1)) → Q (.int f) H3 := fun f e => by
    rw [e, ← hl]
    exact post H3 b3 hA3
  refine ⟨fun i m σ H' => ∃ f y, i ≤ l.length ∧ m = l.length - i ∧ σ = [some (.ref a), some (.int f), y] ∧ H' = H3 ∧ f = (l.take i).foldl mstep (1469598103934665603 + 97 * (c + 1)), ⟨_, _, _, Nat.zero_le _, rfl, rfl, rfl, rfl⟩, ?_⟩
  rintro i m σ H' ⟨f, y, hi, rfl, rfl, rfl, hf⟩
  by_cases hlt : i < l.length
  · refine .inr ⟨⟨_, .int l[i], .of hq3, by simp [hlt]⟩, _, fun σ' H' h => h, fun x H' hy => ?_⟩
    obtain ⟨rfl, hy⟩ := hy
    have hx := hy _ (.of hq3)
    rw [List.getElem?_map, List.getElem?_eq_getElem hlt] at hx
    have hx := (Option.some.inj hx).symm
    subst hx
    refine ⟨.int f, rfl, .int l[i], rfl, f, l[i], rfl, rfl, f + l[i], 1099511628211, rfl, rfl, .inr ⟨by decide, by decide⟩, .inl ⟨_, rfl, 2, 61, rfl, rfl, ⟨by decide, by decide, by decide⟩, 2 ^ 61, 1, rfl, rfl, _, 2 ^ 61 - 1, rfl, rfl, (show (2 : Int) ^ 61 - 1 ≠ 0 by decide), ?_⟩⟩
    refine ⟨_, rfl, _, rfl, 2, 17, rfl, rfl, ⟨by decide, by decide, by decide⟩, _, 2 ^ 17, rfl, rfl, ⟨by decide, by decide +kernel⟩, _, _, rfl, rfl, ?_⟩
    refine ⟨l.length - (i + 1), by omega, _, _, hlt, rfl, rfl, rfl, ?_⟩
    rw [List.take_succ, List.getElem?_eq_getElem hlt]
    simp only [Option.toList_some, List.foldl_append, List.foldl_cons, List.foldl_nil]
    rw [← hf]
    rfl
  · refine .inl ⟨⟨_, .of hq3, by simpa using hlt⟩, .int f, rfl, ?_⟩
    have e : l.take i = l := List.take_of_length_le (by omega)
    rw [e] at hf
    exact fin f hf
end DL

set_option maxHeartbeats 4000000
/-! DL14: _law_take ends. -/
namespace DL
open PySem PySem.Spec PyProof.Rows L2 LamX
def mM : Int := 2305843009213693951
def hM (y : Int) : Int := y + y / 131072
theorem mstep_eq (f x : Int) : mstep f x = hM ((f + x) * 1099511628211 % mM) := by
  unfold mstep hM mM
  rw [show (2 : Int) ^ 61 - 1 = 2305843009213693951 by decide, show (2 : Int) ^ 17 = 131072 by decide]
  rw [Int.fmod_eq_emod_of_nonneg _ (by decide), Int.fdiv_eq_ediv_of_nonneg _ (by decide)]
theorem hM_nn {y : Int} (h : 0 ≤ y) : 0 ≤ hM y := by
  unfold hM
  have := Int.ediv_nonneg h (show (0 : Int) ≤ 131072 by decide)
  omega
theorem mstep_nn (f x : Int) : 0 ≤ mstep f x := by
  rw [mstep_eq]
  exact hM_nn (Int.emod_nonneg _ (by decide))
theorem mixV_eq (c : Int) (cells : List Int) : mixV c cells = mstep (cells.foldl mstep (1469598103934665603 + 97 * c)) c := by
  unfold mixV
  rw [List.foldl_append]; rfl
theorem mixV_nn (c : Int) (cells : List Int) : 0 ≤ mixV c cells := by
  rw [mixV_eq]; exact mstep_nn _ _
/-- a step gives 0 only where its two add to a multiple -/
theorem mstep_zero {f x : Int} (h : mstep f x = 0) : ∃ t, f + x = 2305843009213693951 * t := by
  rw [mstep_eq] at h
  have nn : 0 ≤ (f + x) * 1099511628211 % mM := Int.emod_nonneg _ (by decide)
  have z : (f + x) * 1099511628211 % mM = 0 := by
    unfold hM at h
    have := Int.ediv_nonneg nn (show (0 : Int) ≤ 131072 by decide)
    omega
  unfold mM at z
  obtain ⟨t, e⟩ := Int.dvd_of_emod_eq_zero z
  refine ⟨t * 1886636988539514303 - (f + x) * 899618620532, ?_⟩
  have e2 : (f + x) * 1099511628211 * 1886636988539514303 = 2305843009213693951 * t * 1886636988539514303 := by rw [e]
  rw [Int.mul_assoc] at e2
  have e3 : (1099511628211 : Int) * 1886636988539514303 = 2305843009213693951 * 899618620532 + 1 := by decide
  rw [e3] at e2
  rw [Int.mul_add, Int.mul_one] at e2
  rw [Int.mul_sub]
  rw [show (2305843009213693951 : Int) * (t * 1886636988539514303) = 2305843009213693951 * t * 1886636988539514303 by rw [Int.mul_assoc]]
  rw [← e2]
  rw [show (f + x) * (2305843009213693951 * 899618620532) = 2305843009213693951 * ((f + x) * 899618620532) by rw [← Int.mul_assoc, Int.mul_comm (f + x), Int.mul_assoc]]
  omega
/-- what a step leaves never meets this rest -/
theorem hM_gap {y t c u : Int} (h0 : 0 ≤ y) (h1 : y < 2305843009213693951) (e : hM y + c = 2305843009213693951 * t) (ec : c + 140738562097151 = 2305843009213693951 * u) : False := by
  unfold hM at e
  obtain ⟨q, hq⟩ : ∃ q, q = y / 131072 := ⟨_, rfl⟩
  obtain ⟨s, hs⟩ : ∃ s, s = y % 131072 := ⟨_, rfl⟩
  have hy : y = 131072 * q + s := by omega
  have hs0 : 0 ≤ s ∧ s < 131072 := by omega
  rw [← hq] at e
  clear hq hs
  subst hy
  obtain ⟨k, hk⟩ : ∃ k, k = t - u := ⟨_, rfl⟩
  have e2 : 131073 * q + s - 140738562097151 = 2305843009213693951 * k := by
    rw [hk, Int.mul_sub]; omega
  have k1 : k < 1 := by omega
  have k2 : -1 < k := by omega
  have k0 : k = 0 := by omega
  subst k0
  omega
theorem mix_nz (cells : List Int) (c0 : Int) : ∃ d : Nat, mixV (c0 + 1 + d) cells ≠ 0 := by
  rcases List.eq_nil_or_concat cells with rfl | ⟨cs, x, rfl⟩
  · by_cases h : mixV (c0 + 1) [] = 0
    · refine ⟨1, fun h2 => ?_⟩
      rw [mixV_eq] at h h2
      obtain ⟨t, e⟩ := mstep_zero h
      obtain ⟨u, e2⟩ := mstep_zero h2
      simp only [List.foldl_nil] at e e2
      omega
    · exact ⟨0, by simpa using h⟩
  · obtain ⟨d, u, e⟩ : ∃ (d : Nat) (u : Int), (c0 + 1 + (d : Int)) + 140738562097151 = 2305843009213693951 * u := by
      refine ⟨((-(c0 + 1) - 140738562097151) % 2305843009213693951).toNat, ?_⟩
      have h1 := Int.emod_nonneg (-(c0 + 1) - 140738562097151) (show (2305843009213693951 : Int) ≠ 0 by decide)
      rw [Int.toNat_of_nonneg h1]
      have h2 := Int.emod_add_mul_ediv (-(c0 + 1) - 140738562097151) 2305843009213693951
      exact ⟨-((-(c0 + 1) - 140738562097151) / 2305843009213693951), by omega⟩
    refine ⟨d, fun h => ?_⟩
    rw [mixV_eq] at h
    obtain ⟨t, e2⟩ := mstep_zero h
    rw [List.concat_eq_append, List.foldl_append] at e2
    simp only [List.foldl_cons, List.foldl_nil] at e2
    rw [mstep_eq] at e2
    exact hM_gap (Int.emod_nonneg _ (by decide)) (Int.emod_lt_of_pos _ (by decide)) e2 e
end DL

set_option maxHeartbeats 4000000
/-! DL15: the reading of _law_take. -/
namespace DL
open PySem PySem.Spec PyProof.Rows L2 LamX
def rInt : List V → Hp → VK → Prop := fun xs H Q => (∃ i, xs = [.int i] ∧ Q (.int i) H) ∨ ∃ k, xs = [.bl k] ∧ Q (.int (if k then 1 else 0)) H
def spTake : Sp := fun vs H Q _ => ∃ (a : Addr) (w c : Int) (ca : Addr) (cells : List Int) (n : Int), vs = [.ref a, .int n] ∧ H a = some (.dK (dr w ca c)) ∧ H ca = some (.lst (cells.map V.int)) ∧ cells.length < 1000 ∧ 0 ≤ w ∧ 0 ≤ c ∧ n.natAbs.log2 < 9000 ∧
  ∀ H' w' c' v, Beyond a H H' → H' a = some (.dK (dr w' ca c')) → 0 ≤ w' → 0 ≤ c' → 0 ≤ v → (v < n ∨ (n < 2 ∧ v = 0)) → Q (.int v) H'
def tTake (K : PySem.W.Frag) (E : St → XK) : TS :=
  tSeq (tIfS (tTest (tOp (rI0 fun i j => .bl (decide (i < j))) (tVar 1) (tC (.int 2)))) (tRet (tC (.int 0))) tNext)
  (tSeq (tIfS (tTest (tOp (rI0 fun i j => .bl (decide (j < i))) (tDGet (tVar 0) (tC (.str "whole"))) (tC (.int 0))))
      (tSeq (tAsg (tOp (rI (fun _ j => j ≠ 0) fun i j => .int (i.fmod j)) (tCB rInt (tCons (tDGet (tVar 0) (tC (.str "whole"))) tNil)) (tVar 1)) (gName 2))
      (tSeq (sDPut (tVar 0) (tC (.str "whole")) (tOp (rI CDivB fun i j => .int (i.fdiv j)) (tDGet (tVar 0) (tC (.str "whole"))) (tVar 1)))
        (tRet (tVar 2)))) tNext)
  (tSeq (tAsg (tCallS spMixed E (tCons (tVar 0) tNil)) (gName 2))
  (tSeq (tWhile (tAnd (tTest (tOp (rI0 fun i j => .bl (decide (j < i))) (tVar 1) (tOp (rI CPow fun i j => .int (i ^ j.toNat)) (tC (.int 2)) (tC (.int 50))))) (tTest (tOp (rI0 fun i j => .bl (decide (i < j))) (tVar 2) (tOp (rI CMulB fun i j => .int (i * j)) (tVar 1) (tVar 1)))))
      (tAsg (tOp (rI0 fun i j => .int (i + j)) (tOp (rI CMul fun i j => .int (i * j)) (tVar 2) (tOp (rI CPow fun i j => .int (i ^ j.toNat)) (tC (.int 2)) (tC (.int 61)))) (tCallS spMixed E (tCons (tVar 0) tNil))) (gName 2)))
  (tRet (tOp (rI (fun _ j => j ≠ 0) fun i j => .int (i.fmod j)) (tCB rInt (tCons (tOp (rI CDivB fun i j => .int (i.fdiv j)) (tVar 2) (tC (.int 1024))) tNil)) (tVar 1))))))
theorem log2_up {g r : Nat} (h : g ≠ 0) : g.log2 + 1 ≤ (g * 2 ^ 61 + r).log2 := by
  have h1 : 2 ^ g.log2 ≤ g := (Nat.le_log2 h).mp (Nat.le_refl _)
  rw [Nat.le_log2 (by omega), Nat.pow_succ]
  omega
theorem log2_sq {g n : Nat} (hn : n ≠ 0) (hg : g ≠ 0) (h : g < n * n) : g.log2 < 2 * (n.log2 + 1) := by
  have h1 : n < 2 ^ (n.log2 + 1) := Nat.lt_log2_self
  rw [Nat.log2_lt hg]
  have h2 : n * n < 2 ^ (n.log2 + 1) * 2 ^ (n.log2 + 1) := Nat.mul_lt_mul'' h1 h1
  rw [← Nat.pow_add] at h2
  have e : n.log2 + 1 + (n.log2 + 1) = 2 * (n.log2 + 1) := by omega
  rw [e] at h2
  omega
/-- how far the loop is from its end -/
def rk (n : Int) (cells : List Int) (f c : Int) (m : Nat) : Prop := (f = 0 → ∃ d : Nat, mixV (c + 1 + d) cells ≠ 0 ∧ m = 2 * (n.natAbs.log2 + 1) + 1 + d) ∧ (f ≠ 0 → m = 2 * (n.natAbs.log2 + 1) - f.natAbs.log2)
theorem rk_ex (n : Int) (cells : List Int) (f c : Int) : ∃ m, rk n cells f c m := by
  by_cases h : f = 0
  · obtain ⟨d, hd⟩ := mix_nz cells c
    exact ⟨_, fun _ => ⟨d, hd, rfl⟩, fun z => absurd h z⟩
  · exact ⟨_, fun z => absurd z h, fun _ => rfl⟩
theorem rk_down {n : Int} {cells : List Int} {f c : Int} {m : Nat} (h : rk n cells f c m) (hn : 2 ≤ n) (hf : 0 ≤ f) (hl : f < n * n) : ∃ m', m' < m ∧ rk n cells (f * 2 ^ 61 + mixV (c + 1) cells) (c + 1) m' := by
  have mn := mixV_nn (c + 1) cells
  by_cases h0 : f = 0
  · subst h0
    obtain ⟨d, hd, hm⟩ := h.1 rfl
    rw [Int.zero_mul, Int.zero_add]
    by_cases h1 : mixV (c + 1) cells = 0
    · cases d with
      | zero => exact absurd (by simpa using h1) hd
      | succ d =>
        refine ⟨2 * (n.natAbs.log2 + 1) + 1 + d, by omega, fun _ => ⟨d, ?_, rfl⟩, fun z => absurd h1 z⟩
        rw [show c + 1 + 1 + (d : Int) = c + 1 + ((d + 1 : Nat) : Int) by omega]
        exact hd
    · exact ⟨_, by omega, fun z => absurd z h1, fun _ => rfl⟩
  · have hm := h.2 h0
    have h1 : f * 2 ^ 61 + mixV (c + 1) cells ≠ 0 := by omega
    refine ⟨_, ?_, fun z => absurd z h1, fun _ => rfl⟩
    have e : (f * 2 ^ 61 + mixV (c + 1) cells).natAbs = f.natAbs * 2 ^ 61 + (mixV (c + 1) cells).natAbs := by omega
    have g0 : f.natAbs ≠ 0 := by omega
    have up := log2_up (g := f.natAbs) (r := (mixV (c + 1) cells).natAbs) g0
    rw [← e] at up
    have lt : f.natAbs.log2 < 2 * (n.natAbs.log2 + 1) := by
      refine log2_sq (by omega) g0 ?_
      rw [← Int.natAbs_mul]
      have : 0 ≤ n * n := by omega
      omega
    omega
theorem if_t {c : Bool} {P Q : Prop} (h : c = true) (p : P) : if c = true then P else Q := by rw [if_pos h]; exact p
theorem if_f {c : Bool} {P Q : Prop} (h : ¬ c = true) (p : Q) : if c = true then P else Q := by rw [if_neg h]; exact p
theorem take_law {K : PySem.W.Frag} {vs : List V} {H : Hp} {Q : VK} {E : XK} {E' : St → XK} {X : St → Hp → Prop} (h : spTake vs H Q E) : tTake K E' { nx := X, rt := Q } (L2.start ["draw", "amount", "found"] vs) H := by
  obtain ⟨a, w, c, ca, cells, n, rfl, hA, hC, hlen, hw, hc, hn, post⟩ := h
  have ne : ca ≠ a := fun z => by rw [z, hA] at hC; cases hC
  refine ⟨.int n, rfl, n, 2, rfl, rfl, _, rfl, ?_⟩
  by_cases h2 : n < 2
  · refine if_t (decide_eq_true h2) ?_
    exact post H w c 0 (fun _ _ _ e => e) hA hw hc (Int.le_refl 0) (.inr ⟨h2, rfl⟩)
  refine if_f (by simpa using h2) ?_
  refine ⟨.ref a, rfl, a, .int w, rfl, dg_w hA, w, 0, rfl, rfl, _, rfl, ?_⟩
  have nz : n ≠ 0 := by omega
  by_cases hw0 : 0 < w
  · refine if_t (decide_eq_true hw0) ?_
    refine ⟨.ref a, rfl, a, .int w, rfl, dg_w hA, .inl ⟨w, rfl, .int n, rfl, w, n, rfl, rfl, nz, ?_⟩⟩
    refine ⟨.ref a, rfl, a, .int w, rfl, dg_w hA, .int n, rfl, w, n, rfl, rfl, ⟨nz, hn⟩, .ref a, rfl, a, _, rfl, dp_w hA, .int (w.fmod n), rfl, ?_⟩
    refine post _ (w.fdiv n) c _ Beyond.upd upd_same ?_ hc ?_ (.inl ?_)
    · exact Int.fdiv_nonneg hw (by omega)
    · exact Int.fmod_nonneg_of_pos _ (by omega)
    · exact Int.fmod_lt_of_pos _ (by omega)
  refine if_f (by simpa using hw0) ?_
  have mixed : ∀ {H1 : Hp} {c1 : Int} {R : VK} {E1 : XK}, H1 a = some (.dK (dr w ca c1)) → H1 ca = some (.lst (cells.map V.int)) → (∀ H2, Beyond a H1 H2 → H2 a = some (.dK (dr w ca (c1 + 1))) → H2 ca = some (.lst (cells.map V.int)) → R (.int (mixV (c1 + 1) cells)) H2) → spMixed [.ref a] H1 R E1 := fun {H1 c1 R E1} hA1 hC1 hR =>
    ⟨a, w, c1, ca, cells, rfl, hA1, hC1, hlen, fun H2 b2 e2 => hR H2 b2 e2 (b2 ca _ ne hC1)⟩
  refine ⟨.ref a, rfl, ?_⟩
  dsimp only [tNil]
  refine mixed hA hC fun H1 b1 hA1 hC1 => ?_
  obtain ⟨m0, hm0⟩ := rk_ex n cells (mixV (c + 1) cells) (c + 1)
  refine ⟨fun m σ H' => ∃ f c', σ = [some (.ref a), some (.int n), some (.int f)] ∧ Beyond a H H' ∧ H' a = some (.dK (dr w ca c')) ∧ H' ca = some (.lst (cells.map V.int)) ∧ 0 ≤ c' ∧ 0 ≤ f ∧ rk n cells f c' m, ⟨m0, _, _, rfl, b1, hA1, hC1, by omega, mixV_nn _ _, hm0⟩, ?_⟩
  rintro m σ H' ⟨f, c', rfl, b, hA', hC', hc', hf, hr⟩
  have fin : (tRet (tOp (rI (fun _ j => j ≠ 0) fun i j => .int (i.fmod j)) (tCB rInt (tCons (tOp (rI CDivB fun i j => .int (i.fdiv j)) (tVar 2) (tC (.int 1024))) tNil)) (tVar 1))) { nx := X, rt := Q } [some (.ref a), some (.int n), some (.int f)] H' := by
    refine ⟨.int f, rfl, f, 1024, rfl, rfl, ⟨by decide, by decide +kernel⟩, .inl ⟨_, rfl, .int n, rfl, f.fdiv 1024, n, rfl, rfl, nz, ?_⟩⟩
    refine post H' w c' _ b hA' hw hc' ?_ (.inl ?_)
    · exact Int.fmod_nonneg_of_pos _ (by omega)
    · exact Int.fmod_lt_of_pos _ (by omega)
  refine ⟨.int n, rfl, 2, 50, rfl, rfl, ⟨by decide, by decide, by decide⟩, n, 2 ^ 50, rfl, rfl, _, rfl, ?_⟩
  by_cases hb : (2 : Int) ^ 50 < n
  · refine if_t (decide_eq_true hb) ?_
    refine ⟨.int f, rfl, .int n, rfl, .int n, rfl, n, n, rfl, rfl, (by show _ + _ < _; omega), f, n * n, rfl, rfl, _, rfl, ?_⟩
    by_cases hl : f < n * n
    · refine if_t (decide_eq_true hl) ?_
      refine ⟨_, fun σ' H2 h => h, .int f, rfl, 2, 61, rfl, rfl, ⟨by decide, by decide, by decide⟩, f, 2 ^ 61, rfl, rfl, .inr ⟨by decide, by decide⟩, .ref a, rfl, ?_⟩
      dsimp only [tNil]
      refine mixed hA' hC' fun H2 b2 hA2 hC2 => ⟨_, _, rfl, rfl, ?_⟩
      obtain ⟨m', h1, h3⟩ := rk_down hr (by omega) hf hl
      have mn := mixV_nn (c' + 1) cells
      exact ⟨m', h1, _, _, rfl, b.trans b2, hA2, hC2, by omega, by show 0 ≤ f * 2 ^ 61 + _; omega, h3⟩
    · refine if_f (by simpa using hl) ?_
      exact fin
  · refine if_f (by simpa using hb) ?_
    exact fin
end DL

set_option maxHeartbeats 4000000
/-! DL16: the promise of _law_take; the reading of _law_begun. -/
namespace DL
open PySem PySem.Spec PyProof.Rows L2 LamX
def sp_law_take (mg : Str → Option Value) : PSpec := fun da ds Q er => ∃ a n, da.a = some a ∧ ds = [.ref a, .int n] ∧ n.natAbs.log2 < 9000 ∧ ∀ v, 0 ≤ v → (v < n ∨ (n < 2 ∧ v = 0)) → Q (.int v)
theorem kept_draw {K : PySem.W.Frag} {da : GE} {F : Addr → Prop} {H H' : Hp} {a ca : Addr} {cells : List Int} {w c w' c' : Int} (dom : ∀ b, F b → H b ≠ none) (d : DrawOk F H da) (ha : da.a = some a) (hA : H a = some (.dK (dr w ca c))) (hF : F ca) (hC : H ca = some (.lst (cells.map V.int))) (hl : cells.length ≤ 63)
    (b : Beyond a H H') (hA' : H' a = some (.dK (dr w' ca c'))) (hw : 0 ≤ w') (hc : 0 ≤ c') : Kept K da F H F H' := by
  have nF : ¬ F a := (d.1 a ha).1
  have nb : ∀ {b : Addr}, F b → b ≠ a := fun {b} h z => nF (z ▸ h)
  refine ⟨fun x o e n => b x o (fun z => n.1 (by rw [z, ha])) e, fun _ h => h, fun _ h _ => h, fun x h => ?_, ⟨fun x e => ?_, fun p hp => ?_⟩⟩
  · obtain ⟨o, e⟩ := some_ne (dom x h)
    rw [b x o (nb h) e]; simp
  · rw [ha] at e
    cases e
    exact ⟨nF, w', c', ca, cells, hA', hF, b ca _ (nb hF) hC, hw, hc, hl⟩
  · obtain ⟨n1, ps, e1, e2, e3⟩ := d.2 p hp
    refine ⟨n1, ps, b _ _ (fun z => by rw [z, hA] at e1; cases e1) e1, e2, fun pos cv hcv => ?_⟩
    obtain ⟨c0, e4, e5⟩ := e3 pos cv hcv
    exact ⟨c0, e4, b _ _ (fun z => by rw [z, hA] at e5; unfold CodeO at e5; cases e5) e5⟩
theorem take_imp {K : PySem.W.Frag} {vs : List V} {H : Hp} {Q : VK} {E : XK} {mg : Str → Option Value} (h : spOf K 2 (sp_law_take mg) vs H Q E) : spTake vs H Q E := by
  obtain ⟨da, F, ds, PQ, er, dens, hl, dom, draw, ⟨a, n, ha, rfl, hn, hq⟩, post, _⟩ := h
  obtain ⟨v1, v2, rfl, d1, d2⟩ := dens.two
  obtain ⟨nF, w, c, ca, cells, hA, hF, hC, hw, hc, hlen⟩ := draw.1 a ha
  refine ⟨a, w, c, ca, cells, n, by rw [d1.refE, d2.intE], hA, hC, by omega, hw, hc, hn, fun H' w' c' v b hA' hw' hc' h0 hv => ?_⟩
  exact post F H' _ (.int v) (kept_draw dom draw ha hA hF hC hlen b hA' hw' hc') (.int v) (hq v h0 hv)
theorem sq_keep {K : PySem.W.Frag} {H H' : Hp} {s : Addr} {xs : List V} (h : SqL K H s xs) (k : ∀ b o, H b = some o → H' b = some o) : SqL K H' s xs := by
  rcases h with h | h
  · refine .inl ?_
    rcases h with h | ⟨o, h⟩
    · exact .inl (k _ _ h)
    · exact .inr ⟨o, k _ _ h⟩
  · exact .inr h
/-- the script's numbers -/
def ScrB (ns : List Int) : Prop := ns.length ≤ 63 ∧ ∀ z ∈ ns, z.natAbs < 2 ^ 1048577
def spBegun (K : PySem.W.Frag) : Sp := fun vs H Q _ => ∃ (s : Addr) (ns : List Int), vs = [.ref s] ∧ SqL K H s (ns.map V.int) ∧ ScrB ns ∧
  ∀ (H' : Hp) (a ca : Addr) (w : Int) (cells : List Int), (∀ b o, H b = some o → H' b = some o) → H a = none → H ca = none → H' a = some (.dK (dr w ca 0)) → H' ca = some (.lst (cells.map V.int)) → 0 ≤ w → cells.length ≤ 63 → Q (.ref a) H'
abbrev t18 : TE := tOp (rI CPow fun i j => .int (i ^ j.toNat)) (tC (.int 10)) (tC (.int 18))
abbrev tIsi (K : PySem.W.Frag) : TT := fun σ H Q => (tCB (rIsi K) (tCons (tVar 3) (tCons (tC (.ty "int")) tNil))) σ H fun x H' => ∃ k, TruV K x H' k ∧ Q k H'
def tBegun (K : PySem.W.Frag) : TS :=
  tSeq (tPar 1 2 (tCons (tC (.int 0)) (tCons (tLst tNil) tNil)))
  (tSeq (tFor (iList K (tVar 0)) (gName 3)
    (tIfS (tIsi K)
      (tSeq (tIfS (tTest (tOp (rI0 fun i j => .bl (decide (j ≤ i))) (tVar 3) t18))
          (tAsg (tOp (rI0 fun i j => .int (i + j)) (tOp (rI CMulB fun i j => .int (i * j)) (tVar 1) (tOp (rI0 fun i j => .int (i + j)) (tOp (rI0 fun i j => .int (i - j)) (tVar 3) t18) (tC (.int 1)))) (tOp (rI0 fun i j => .int (i - j)) (tVar 3) t18)) (gName 1)) tNext)
        (tDrop (tBM K "list" rAppend (tVar 2) (tCons (tVar 3) tNil)))) tNext))
  (tRet (tDisp [(tC (.str "whole"), tVar 1), (tC (.str "cells"), tVar 2), (tC (.str "count"), tC (.int 0))])))
theorem log2_lt_of {x k : Nat} (h : x < 2 ^ k) (hk : 0 < k) : x.log2 < k := by
  by_cases h0 : x = 0
  · subst h0; simpa using hk
  · exact (Nat.log2_lt h0).mpr h
theorem begun_law {K : PySem.W.Frag} {vs : List V} {H : Hp} {Q : VK} {E : XK} {X : St → Hp → Prop} (h : spBegun K vs H Q E) : tBegun K { nx := X, rt := Q } (L2.start ["script", "whole", "cells", "cell"] vs) H := by
  obtain ⟨s, ns, rfl, hS, ⟨hl, hz⟩, post⟩ := h
  refine ⟨Nat.zero_le _, fun ca hca => ⟨.int 0, .ref ca, rfl, ?_⟩⟩
  refine ⟨.ref s, rfl, s, rfl, ⟨_, sq_keep hS fun b o e => upd_keep hca e⟩, ?_⟩
  have hSu : ∀ o, SqL K (upd H ca o) s (ns.map V.int) := fun o => sq_keep hS fun b o e => upd_keep hca e
  refine ⟨fun i m σ H' => ∃ w y, i ≤ ns.length ∧ m = ns.length - i ∧ σ = [some (.ref s), some (.int w), some (.ref ca), y] ∧ H' = upd H ca (.lst ((ns.take i).map V.int)) ∧ 0 ≤ w ∧ w.natAbs + 1 ≤ 2 ^ (1048577 * i), ⟨_, 0, _, Nat.zero_le _, rfl, rfl, by simp, by omega, by simp⟩, ?_⟩
  rintro i m σ H' ⟨w, y, hi, rfl, rfl, rfl, hw, hb⟩
  by_cases hlt : i < ns.length
  · refine .inr ⟨⟨_, .int ns[i], hSu _, by simp [hlt]⟩, _, fun σ' H' h => h, fun x H' hy => ?_⟩
    obtain ⟨rfl, hy⟩ := hy
    have hx := hy _ (hSu _)
    rw [List.getElem?_map, List.getElem?_eq_getElem hlt] at hx
    have hx := (Option.some.inj hx).symm
    subst hx
    have hzi : ns[i].natAbs < 2 ^ 1048577 := hz _ (List.getElem_mem hlt)
    have hp : 2 ^ (1048577 * i) ≤ 2 ^ (1048577 * (i + 1)) := Nat.pow_le_pow_right (by omega) (by omega)
    have app : ∀ w' : Int, 0 ≤ w' → w'.natAbs + 1 ≤ 2 ^ (1048577 * (i + 1)) → (tDrop (tBM K "list" rAppend (tVar 2) (tCons (tVar 3) tNil))) { nx := fun σ' H' => ∃ m', m' < ns.length - i ∧ ∃ w y, i + 1 ≤ ns.length ∧ m' = ns.length - (i + 1) ∧ σ' = [some (.ref s), some (.int w), some (.ref ca), y] ∧ H' = upd H ca (.lst ((ns.take (i + 1)).map V.int)) ∧ 0 ≤ w ∧ w.natAbs + 1 ≤ 2 ^ (1048577 * (i + 1)), rt := Q } [some (.ref s), some (.int w'), some (.ref ca), some (.int ns[i])] (upd H ca (.lst ((ns.take i).map V.int))) := fun w' h1 h2 => by
      refine ⟨.ref ca, rfl, .inl ⟨rfl, _, .of upd_same⟩, .int ns[i], rfl, ca, _, _, rfl, rfl, upd_same, ?_, ?_⟩
      · rw [List.length_map, List.length_take]
        have : (1000 : Nat) ≤ sizeLine := by decide
        omega
      · refine ⟨ns.length - (i + 1), by omega, w', _, hlt, rfl, rfl, ?_, h1, h2⟩
        have e : (ns.take (i + 1)).map V.int = (ns.take i).map V.int ++ [V.int ns[i]] := by
          rw [List.take_succ, List.getElem?_eq_getElem hlt]
          simp only [Option.toList_some, List.map_append, List.map_cons, List.map_nil]
        rw [upd_upd, e]
    refine ⟨.int ns[i], rfl, .int ns[i], .ty "int", _, _, true, rfl, .ty _, .base (.int _), kit_ty (show kitB "int" "int" = some true by decide +kernel), true, rfl, if_t rfl ?_⟩
    refine ⟨.int ns[i], rfl, 10, 18, rfl, rfl, ⟨by decide, by decide, by decide⟩, ns[i], 10 ^ 18, rfl, rfl, _, rfl, ?_⟩
    by_cases hge : (10 : Int) ^ 18 ≤ ns[i]
    · refine if_t (decide_eq_true hge) ?_
      have e18 : (10 : Int) ^ (18 : Int).toNat = 10 ^ 18 := by decide
      have hq : (0 : Int) < 10 ^ 18 := by decide
      have hcl : (ns[i] - 10 ^ 18 + 1).natAbs < 2 ^ 1048577 := by omega
      refine ⟨.int w, rfl, .int ns[i], rfl, 10, 18, rfl, rfl, ⟨by decide, by decide, by decide⟩, ns[i], 10 ^ 18, rfl, rfl, ns[i] - 10 ^ 18, 1, rfl, rfl, w, ns[i] - 10 ^ 18 + 1, rfl, rfl, ?_, .int ns[i], rfl, 10, 18, rfl, rfl, ⟨by decide, by decide, by decide⟩, ns[i], 10 ^ 18, rfl, rfl, w * (ns[i] - 10 ^ 18 + 1), ns[i] - 10 ^ 18, rfl, rfl, ?_⟩
      · have a1 : w.natAbs.log2 < 1048577 * i + 1 := log2_lt_of (by rw [Nat.pow_succ]; omega) (by omega)
        have a2 : (ns[i] - 10 ^ 18 + 1).natAbs.log2 < 1048577 := log2_lt_of hcl (by omega)
        show _ + _ < _
        omega
      · refine app (w * (ns[i] - 10 ^ 18 + 1) + (ns[i] - 10 ^ 18)) ?_ ?_
        · have : 0 ≤ w * (ns[i] - 10 ^ 18 + 1) := Int.mul_nonneg hw (by omega)
          omega
        · have e1 : (w * (ns[i] - 10 ^ 18 + 1) + (ns[i] - 10 ^ 18)).natAbs + 1 = (w.natAbs + 1) * (ns[i] - 10 ^ 18 + 1).natAbs := by
            have p1 : 0 ≤ w * (ns[i] - 10 ^ 18 + 1) := Int.mul_nonneg hw (by omega)
            have p2 : (w * (ns[i] - 10 ^ 18 + 1)).natAbs = w.natAbs * (ns[i] - 10 ^ 18 + 1).natAbs := Int.natAbs_mul _ _
            rw [Nat.add_mul, Nat.one_mul, ← p2]
            omega
          rw [e1, show 1048577 * (i + 1) = 1048577 * i + 1048577 by omega, Nat.pow_add]
          exact Nat.mul_le_mul hb (by omega)
    · refine if_f (by simpa using hge) ?_
      exact app w hw (by omega)
  · refine .inl ⟨⟨_, hSu _, by simpa using hlt⟩, fun a ha => ⟨.int w, rfl, .ref ca, rfl, ?_⟩⟩
    have nac : ca ≠ a := fun z => by rw [z, upd_same] at ha; cases ha
    refine ⟨upd_same, [(kW, .int w), (kC, .ref ca), (kN, .int 0)], rfl, (show 3 ≤ 15 by decide), ?_⟩
    have hn : H a = none := by rw [upd_ne (Ne.symm nac)] at ha; exact ha
    refine post _ a ca w (ns.take i) (fun b o e => ?_) hn hca ?_ ?_ hw (by rw [List.length_take]; omega)
    · have n1 : b ≠ a := ne_of_none e hn
      have n2 : b ≠ ca := ne_of_none e hca
      rw [upd_ne n1, upd_ne n1, upd_ne n2]
      exact e
    · rw [upd_same]
      have : mergeK [] [(kW, V.int w), (kC, .ref ca), (kN, .int 0)] = dr w ca 0 := by
        unfold mergeK dr
        simp [putK, show ¬ (("whole" : Str) = "cells") by decide, show ¬ (("whole" : Str) = "count") by decide, show ¬ (("cells" : Str) = "count") by decide]
      rw [this]
    · rw [upd_ne nac, upd_ne nac, upd_same]
end DL

set_option maxHeartbeats 4000000
/-! DL17: facts that the head's hook tells, for this layer. -/
namespace DL
open PySem PySem.Spec PyProof.Rows L2 LamX
def excIB (K : PySem.W.Frag) (C : Addr) : Bool :=
  (PySem.W.clsIn K C).isSome && (He.eqO (PySem.W.findIn K (.ref C) "__getattribute__") (some (some (.builtin "BaseException.__getattribute__"))) && ((PySem.W.findIn K (.ref C) "__getattr__").isSome && (decide (PySem.W.subIn K (.ref C) (.type "BaseException") = some true) &&
    (He.eqO (PySem.W.findIn K (.ref C) "__class__") (some (some (.builtin "object.__class__"))) && (He.eqO (PySem.W.specialIn K (.builtin "object.__class__") "__get__") (some (some (.builtin "getset_descriptor.__get__"))) && (decide (PySem.W.takesIn K (.builtin "object.__class__") = some true) &&
    (decide (PySem.W.mroIn K C (.type "object") = some true) && decide (PySem.W.kitOne K (.ref C) (.ref C) = some true))))))))
theorem excIB_ok {K : PySem.W.Frag} {C : Addr} (h : excIB K C = true) : ExcI K C := by
  obtain ⟨h1, h⟩ := He.ba h
  obtain ⟨h2, h⟩ := He.ba h
  obtain ⟨h3, h⟩ := He.ba h
  obtain ⟨h4, h⟩ := He.ba h
  obtain ⟨h5, h⟩ := He.ba h
  obtain ⟨h6, h⟩ := He.ba h
  obtain ⟨h7, h⟩ := He.ba h
  obtain ⟨h8, h9⟩ := He.ba h
  exact ⟨h1, He.eqO_ok h2, Option.isSome_iff_exists.mp h3, of_decide_eq_true h4, He.eqO_ok h5, He.eqO_ok h6, of_decide_eq_true h7, of_decide_eq_true h8, of_decide_eq_true h9⟩
/-- a def of the top without defaults -/
def dfD (x : Str) (st : Stmt) : He.DefD := ⟨(x, none), x, x, defArgs st, defBody st, defScope st, [], []⟩
theorem fun_of {K : PySem.W.Frag} {x : Str} {st : Stmt} {f : Addr} {fd : FuncData} (h : FunD K x x (defArgs st) (defBody st) (defScope st) [] [] f fd) : Fun K x x st f fd := by
  obtain ⟨oc, od, dV, kV, doc, pm, an, cdv, ct, osl, e, lk, hc, hd, hk⟩ := h.ex
  have e0 : dV = .none := by
    rcases hd with ⟨_, z⟩ | ⟨z, _⟩
    · exact z
    · exact absurd rfl z
  subst e0
  exact ⟨⟨oc, od, kV, doc, pm, an, cdv, ct, osl, e, lk, hc⟩, h.kp⟩
section
variable {fa : List He.Fa} {fn : List He.DefD} {ts : List He.Tab} {tf : List He.Defn} {ex : PySem.W.Frag → Bool} {w : World} {h : Heap} {K : PySem.W.Frag} {mg : Str → Option Value}
theorem fun_says (c : He.SaysD fa fn K) (X : K.In h) (G : h.Ns mainGlobals mg) (x : Str) (st : Stmt) (i j : Nat) (h1 : fa[i]? = some (.glo x)) (h2 : fn[j]? = some (dfD x st)) : ∃ f fd, mg x = some (.ref f) ∧ Fun K x x st f fd := by
  obtain ⟨fd, F⟩ := c.def_ j (d := dfD x st) h2
  exact ⟨_, fd, He.glo_ok X G (c.fact i (f := .glo x) h1), fun_of F⟩
theorem exc_says (c : He.SaysD fa fn K) (X : K.In h) (G : h.Ns mainGlobals mg) (x : Str) (i j : Nat) (h1 : fa[i]? = some (.glo x)) (h2 : fa[j]? = some (.exc x)) : ∃ C, ExcT K mg x C := by
  obtain ⟨e1, e2, e3, e4⟩ := He.exc_ok (c.fact j (f := .exc x) h2)
  exact ⟨_, He.glo_ok X G (c.fact i (f := .glo x) h1), e1, e2, e3, e4⟩
end
end DL

set_option maxHeartbeats 4000000
/-! DL18: the law's own def: the draws are begun, the rest over them. -/
namespace DL
open PySem PySem.Spec PyProof.Rows L2 LamX
def spLaw (K : PySem.W.Frag) (T : List (Addr × Str)) : Sp := fun vs H Q _ => ∃ (s : Addr) (ns : List Int), vs = [.ref s] ∧ SqL K H s (ns.map V.int) ∧ ScrB ns ∧ Tabs T H ∧ ∀ H', Q (.bl true) H'
abbrev lcx (P : Program) (w : World) (K : PySem.W.Frag) (mg : Str → Option Value) (base : Heap) (N : List Str) (x : Str) (st : Stmt) (f c : Addr) (A : Around) (outer : List Env) (s : Shared) (H : Hp) (E : XK) : Cx :=
  cxOf (L2.CX P w) P w K mg base N x (defScope st) f (.ref c) A outer s H E
/-- what is wished of the law's body -/
def lawEnds : PEnds := { nx := fun _ => False, rt := fun d => d = .bl true, er := fun _ => False }
def lawStart (n : Nat) (a : Addr) (ns : List Int) : List PV := PV.val (.scr ns) :: PV.val (.ref a) :: List.replicate (n - 2) .no
def tRest (K : PySem.W.Frag) (W : WX) (T : List (Addr × Str)) (p : GE → PTS) : TS := fun D σ H => ∃ a, tsOf K W ⟨some a, T⟩ (p ⟨some a, T⟩) D σ H
theorem law_fn {P : Program} {w : World} {K : PySem.W.Frag} {mg : Str → Option Value} {base : Heap} {k : Nat} {N : List Str} {st s1 : Stmt} {rest : List Stmt} {f c : Addr} {fd : FuncData} {T : List (Addr × Str)} {p : GE → PTS} {n0 n1 : Str} {N' : List Str}
    (F : FunD K "law" "law" (defArgs st) (defBody st) (defScope st) [] [] f fd) (hc : ∀ oc od osl fd', K.lookup f = some ⟨oc, od, .func fd', osl⟩ → ∀ c', fd'.code = .ref c' → c' = c) (S : FnScope N ["script"] (defScope st)) (hN : N = n0 :: n1 :: N') (hbd : defBody st = s1 :: rest)
    (hs1 : ∀ (A : Around) (outer : List Env) (s : Shared) (H : Hp) (E : XK), Room k (lcx P w K mg base N "law" st f c A outer s H E).A → PS (lcx P w K mg base N "law" st f c A outer s H E) s1 (tAsg (tCallS (spBegun K) (fun σ => WE (bW E) σ) (tCons (tVar 0) tNil)) (gName 1)))
    (hrest : ∀ (A : Around) (outer : List Env) (s : Shared) (H : Hp) (E : XK) (a : Addr), Room k (lcx P w K mg base N "law" st f c A outer s H E).A → Takes (lcx P w K mg base N "law" st f c A outer s H E) (bW E) → DSs (lcx P w K mg base N "law" st f c A outer s H E) (bW E) ⟨some a, T⟩ rest (p ⟨some a, T⟩))
    (hp : ∀ a ns, ScrB ns → p ⟨some a, T⟩ lawEnds (lawStart N.length a ns)) : FnOk P w K mg base (L2.CX P w) (k + 1) f fd ["script"] (spLaw K T) := by
  obtain ⟨oc, od, dV, kV, doc, pm, an, cdv, ct, osl, rfl, lk, hcd, _, _⟩ := F.ex
  obtain ⟨c', ec⟩ := He.codeIn_ref hcd
  have e1 := hc _ _ _ _ lk c' ec
  subst e1 ec
  refine fn_of lk hcd S (fun vs H Q E ⟨s, ns, e, _⟩ => by rw [e]; rfl) fun A outer s H vs Q E hr h => ?_
  rw [hbd]
  have tk := takes_of (X := lcx P w K mg base N "law" st f c' A outer s H E) rfl rfl rfl rfl
  refine ⟨_, pss_cons (hs1 A outer s H E hr) (u := tRest K (bW E) T p) ⟨fun pins s' σ H' D I ⟨a, h'⟩ => ((hrest A outer s H E a hr tk).can).run pins s' σ H' D I h'⟩, ?_⟩
  obtain ⟨sa, ns, rfl, hS, hB, hT, hq⟩ := h
  subst hN
  refine ⟨.ref sa, rfl, ?_⟩
  dsimp only [tNil]
  refine ⟨sa, ns, rfl, hS, hB, fun H' a ca wh cells keep na nca hA hC hw hl => ?_⟩
  have nac : ca ≠ a := fun z => by rw [z, hA] at hC; cases hC
  have hS' := sq_keep hS keep
  have rdNe : Rd H sa (.lst (ns.map V.int)) → H sa ≠ none := fun z => by
    rcases z with z | ⟨o, z⟩ <;> rw [z] <;> simp
  have keepNe : ∀ b, H b ≠ none → H' b ≠ none := fun b n => by
    obtain ⟨o, e⟩ := some_ne n
    rw [keep b o e]; simp
  obtain ⟨F0, eF⟩ : ∃ F0 : Addr → Prop, F0 = fun b => b = ca ∨ (b = sa ∧ Rd H sa (.lst (ns.map V.int))) := ⟨_, rfl⟩
  have dom : ∀ b, F0 b → H' b ≠ none := fun b hb => by
    rw [eF] at hb
    rcases hb with z | ⟨z, r⟩
    · rw [z, hC]; simp
    · rw [z]; exact keepNe _ (rdNe r)
  have draw : DrawOk F0 H' ⟨some a, T⟩ := by
    refine ⟨fun b hb => ?_, fun q hq => ⟨fun hF => ?_, (hT q hq).ext keep⟩⟩
    · cases hb
      refine ⟨fun hF => ?_, wh, 0, ca, cells, hA, by rw [eF]; exact .inl rfl, hC, hw, Int.le_refl 0, hl⟩
      rw [eF] at hF
      rcases hF with z | ⟨z, r⟩
      · exact nac z.symm
      · exact rdNe r (z ▸ na)
    · obtain ⟨ps, e, _⟩ := hT q hq
      rw [eF] at hF
      rcases hF with z | ⟨z, r⟩
      · rw [z, nca] at e; cases e
      · rw [z] at e
        rcases r with r | ⟨o, r⟩ <;> rw [r] at e <;> cases e
  have noOwn : ∀ {i : Nat} {d : D}, (lawStart (n0 :: n1 :: N').length a ns)[i]? = some (.own d) → False := fun {i d} h => by
    unfold lawStart at h
    match i, h with
    | 0, h => cases h
    | 1, h => cases h
    | i + 2, h =>
      have := List.mem_of_getElem? (show (List.replicate _ PV.no)[i]? = some (PV.own d) from h)
      have := (List.mem_replicate.mp this).2
      cases this
  refine ⟨a, ⟨H', F0, F0, H'⟩, F0, lawStart (n0 :: n1 :: N').length a ns, lawEnds, ?_, hp a ns hB, ?_⟩
  · refine ⟨?_, fun i pv h => ?_, fun i j di dj b h => (noOwn h).elim, draw, fun _ _ h _ => h, fun _ h => h, fun _ _ => rfl, fun _ h _ => h, fun b ⟨i, d, h, _⟩ => (noOwn h).elim, dom, fun b h => draw.fix h⟩
    · unfold lawStart L2.start
      simp
    · unfold lawStart at h
      match i, h with
      | 0, h =>
        cases h
        refine ⟨.ref sa, rfl, .scr ?_⟩
        rcases hS with r | r
        · refine .inl ⟨by rw [eF]; exact .inr ⟨rfl, r⟩, ?_⟩
          rcases r with r | ⟨o, r⟩
          · exact .inl (keep _ _ r)
          · exact .inr ⟨o, keep _ _ r⟩
        · exact .inr r
      | 1, h =>
        cases h
        exact ⟨.ref a, rfl, .ref a⟩
      | i + 2, h =>
        have := List.mem_of_getElem? (show (List.replicate _ PV.no)[i]? = some pv from h)
        have := (List.mem_replicate.mp this).2
        subst this
        trivial
  · exact ⟨fun _ _ _ _ _ z => z.elim, fun F' ps' σ' H2 v d R den e => by
      have e : d = .bl true := e
      subst e
      rw [den.blE]
      exact hq H2, fun _ _ _ _ _ z => z.elim, fun _ _ _ _ _ z => z.elim, fun _ _ _ _ _ _ _ z => z.elim⟩
end DL

set_option maxHeartbeats 4000000
/-! DL19: more of what the head tells. -/
namespace DL
open PySem PySem.Spec PyProof.Rows L2 LamX
def posC (b : List Stmt) : (Fin 20 → Pos) × Nat := match b with
  | [.Assign [.Name _ p0] (.Constant _ j1 p1) p2, .Try [.Expr (.Call (.Name _ p3) _ _ p4) p5] [.ExceptHandler (some (.Name _ p6)) _ [.Assign [.Name _ p7] (.Name _ p8) p9] p10] _ _ p11, .Return (some (.Name _ p12)) p13] =>
    (fun i => ([p0, p1, p2, p3, p4, p5, p6, p7, p8, p9, p10, p11, p12, p13] : List Pos).getD i.val p0, j1)
  | _ => (fun _ => ⟨0, 0, 0, 0⟩, 0)
section
variable {fa : List He.Fa} {fn : List He.DefD} {h : Heap} {K : PySem.W.Frag} {mg : Str → Option Value}
theorem mg_says (c : He.SaysD fa fn K) (X : K.In h) (G : h.Ns mainGlobals mg) {x : Str} (h1 : (.glo x : He.Fa) ∈ fa) : mg x = some (.ref (He.ga K x)) := He.glo_ok X G (c.facts (f := .glo x) h1)
theorem excI_says (X : K.In h) (G : h.Ns mainGlobals mg) (c : He.SaysD fa fn K) {x : Str} {names : List Str} (h1 : (.glo x : He.Fa) ∈ fa) (h2 : (names.all fun x => excIB K (He.ga K x)) = true) (h3 : x ∈ names) : ∀ C, mg x = some (.ref C) → ExcI K C := fun C hm => by
  rw [mg_says c X G h1] at hm
  cases hm
  exact excIB_ok (List.all_eq_true.mp h2 x h3)
theorem cat_says (c : He.SaysD fa fn K) (X : K.In h) (G : h.Ns mainGlobals mg) {st : Stmt} {names : List Str} (h1 : (.glo "_law_caught" : He.Fa) ∈ fa) (h2 : dfD "_law_caught" st ∈ fn) (h3 : (.glo "PowerError" : He.Fa) ∈ fa) (S : FnScope nC ["work"] (defScope st)) (hbd : defBody st = bgC (posC (defBody st)).1 (posC (defBody st)).2 "PowerError")
    (hl : (defScope st).names.lookup ("work" : Str) = some .local ∧ (defScope st).names.lookup ("caught" : Str) = some .local ∧ (defScope st).names.lookup ("error" : Str) = some .local ∧ (defScope st).names.lookup ("PowerError" : Str) = some .globalImplicit)
    (hsw : ∀ e : Env, e.scope = defScope st → swapsWith (.Name "error" ((posC (defBody st)).1 8)) (some (.Name "caught" ((posC (defBody st)).1 7))) ((posC (defBody st)).1 9).line e = pure false)
    (hb : ∀ (kV doc pm : Value) (an : Option Addr) (cdv ct : Value) (us : List Value), us.length = 1 → bindArgs (PySem.W.fnOf "_law_caught" "_law_caught" (defArgs st) (defBody st) (defScope st) .none kV doc pm an cdv ct) ⟨us, []⟩ = pure ((["work"] : List Str).zip us))
    (h4 : ∀ x ∈ names, (.glo x : He.Fa) ∈ fa ∧ (.exm x "PowerError" true : He.Fa) ∈ fa) : CatT K mg names := by
  obtain ⟨fd, F⟩ := c.defs h2
  have F' : Fun K "_law_caught" "_law_caught" st _ fd := fun_of F
  refine ⟨_, _, st, fd, _, _, mg_says c X G h1, F', F'.binds hb, S, hbd, hl, mg_says c X G h3, hsw, fun x hx C hm => ?_⟩
  obtain ⟨g1, g2⟩ := h4 x hx
  rw [mg_says c X G g1] at hm
  cases hm
  exact He.exm_ok (c.facts (f := .exm x "PowerError" true) g2)
end
end DL

set_option maxHeartbeats 4000000
/-! DL20: what the head tells, by membership. -/
namespace DL
open PySem PySem.Spec PyProof.Rows L2 LamX
theorem memD {α : Type} {fn : List α} {d : α} {j : Nat} (h : fn[j]? = some d) : d ∈ fn := List.mem_of_getElem? h
section
variable {fa : List He.Fa} {fn : List He.DefD} {h : Heap} {K : PySem.W.Frag} {mg : Str → Option Value}
theorem fun_sayM (c : He.SaysD fa fn K) (X : K.In h) (G : h.Ns mainGlobals mg) (x : Str) (st : Stmt) (h1 : (.glo x : He.Fa) ∈ fa) (h2 : dfD x st ∈ fn) : ∃ f fd, mg x = some (.ref f) ∧ Fun K x x st f fd := by
  obtain ⟨fd, F⟩ := c.defs h2
  exact ⟨_, fd, mg_says c X G h1, fun_of F⟩
theorem exc_sayM (c : He.SaysD fa fn K) (X : K.In h) (G : h.Ns mainGlobals mg) (x : Str) (h1 : (.glo x : He.Fa) ∈ fa) (h2 : (.exc x : He.Fa) ∈ fa) : ∃ C, ExcT K mg x C := by
  obtain ⟨e1, e2, e3, e4⟩ := He.exc_ok (c.facts (f := .exc x) h2)
  exact ⟨_, mg_says c X G h1, e1, e2, e3, e4⟩
end
end DL

set_option maxHeartbeats 4000000
/-! DL21: ends. -/
namespace DL
open PySem PySem.Spec PyProof.Rows L2 LamX
theorem bits_lt {z : Int} (h : Builtin.Int.intBits z ≤ 1048576) : z.natAbs < 2 ^ 1048577 := by
  unfold Builtin.Int.intBits at h
  split at h
  · rename_i e
    have : z.natAbs = 0 := by simpa using e
    rw [this]
    exact Nat.pow_pos (by omega)
  · have h1 := Nat.lt_log2_self (n := z.natAbs)
    exact Nat.lt_of_lt_of_le h1 (Nat.pow_le_pow_right (by omega) (by omega))
theorem cx_no {P : Program} {w : World} {H : Hp} {s : Shared} {e : Value} {s' : Shared} (z : L2.CX P w [] H s (fun _ _ _ => False) e s') : False := by
  obtain ⟨a, B, H', cls, d, _, _, _, _, _, _, _, q⟩ := z
  exact q
end DL

set_option maxHeartbeats 4000000
/-! PM: polynomials as lists of whole numbers. -/
namespace DL
open PySem PySem.Spec PyProof.Rows L2 LamX
def tI (l : List Int) : D := .tup (l.map .int)
def lI (l : List Int) : D := .lst (l.map .int)
def isW : D → Bool
  | .int _ => true
  | _ => false
def isZ : D → Bool
  | .int i => decide (i = 0)
  | _ => false
def dat (d : D) : Prop := (isC d .int).isSome = true ∧ (isC d .tuple).isSome = true ∧ (isC d .bool).isSome = true
def lastNZ (l : List D) : Bool := match l.getLast? with
  | none => true
  | some x => !isZ x
def isPolyB : D → Bool
  | .tup l => decide (l.length ≤ 200) && (l.all isW && lastNZ l)
  | _ => false
theorem snoc_ind {α : Type} {P : List α → Prop} (h0 : P []) (h1 : ∀ l x, P l → P (l ++ [x])) (l : List α) : P l := by
  have key : ∀ r : List α, P r.reverse := fun r => by
    induction r with
    | nil => exact h0
    | cons x r ih => rw [List.reverse_cons]; exact h1 _ _ ih
  have := key l.reverse
  rwa [List.reverse_reverse] at this
/-! ### trailing zeros -/
def trim (l : List Int) : List Int := (l.reverse.dropWhile (fun x => decide (x = 0))).reverse
theorem trim_nil : trim [] = [] := rfl
theorem trim_zero (l : List Int) : trim (l ++ [0]) = trim l := by
  unfold trim
  simp
theorem trim_nz (l : List Int) {x : Int} (h : x ≠ 0) : trim (l ++ [x]) = l ++ [x] := by
  unfold trim
  simp [h]
theorem trim_last (l : List Int) : trim l = [] ∨ ∃ m x, trim l = m ++ [x] ∧ x ≠ 0 := by
  induction l using snoc_ind with
  | h0 => exact .inl rfl
  | h1 l x ih =>
    by_cases h : x = 0
    · subst h; rw [trim_zero]; exact ih
    · rw [trim_nz l h]; exact .inr ⟨l, x, rfl, h⟩
theorem trim_len (l : List Int) : (trim l).length ≤ l.length := by
  induction l using snoc_ind with
  | h0 => simp [trim]
  | h1 l x ih =>
    by_cases h : x = 0
    · subst h; rw [trim_zero]; simp; omega
    · rw [trim_nz l h]; simp
theorem trim_getD (l : List Int) (k : Nat) : (trim l).getD k 0 = l.getD k 0 := by
  induction l using snoc_ind with
  | h0 => simp [trim]
  | h1 l x ih =>
    by_cases h : x = 0
    · subst h
      rw [trim_zero, ih]
      simp only [List.getD_eq_getElem?_getD, List.getElem?_append]
      split
      · rfl
      · rename_i hk
        rw [List.getElem?_eq_none (by omega)]
        cases q : ([0] : List Int)[k - l.length]? with
        | none => rfl
        | some z =>
          have := List.mem_of_getElem? q
          simp at this
          simp [this]
    · rw [trim_nz l h]
/-- two of the same places are the same once trimmed -/
theorem trim_of {a b : List Int} (ha : trim a = a) (hb : trim b = b) (h : ∀ k, a.getD k 0 = b.getD k 0) : a = b := by
  have key : ∀ {a b : List Int}, trim a = a → (∀ k, a.getD k 0 = b.getD k 0) → a.length ≤ b.length := fun {a b} ha h => by
    rcases trim_last a with e | ⟨m, x, e, hx⟩
    · rw [ha] at e; simp [e]
    · rw [ha] at e
      have h1 := h m.length
      rw [e] at h1
      by_cases hl : m.length < b.length
      · rw [e]; simp; omega
      · have : b.getD m.length 0 = 0 := by
          simp [List.getD_eq_getElem?_getD, List.getElem?_eq_none (show b.length ≤ m.length by omega)]
        rw [this] at h1
        simp at h1
        exact absurd h1 hx
  have l1 := key ha h
  have l2 := key hb fun k => (h k).symm
  refine List.ext_getElem (by omega) fun i h1 h2 => ?_
  have := h i
  simp [List.getD_eq_getElem?_getD, h1, h2] at this
  exact this
theorem trim_trim (l : List Int) : trim (trim l) = trim l := by
  rcases trim_last l with e | ⟨m, x, e, hx⟩
  · rw [e]; rfl
  · rw [e, trim_nz m hx]
theorem trim_ext {a b : List Int} (h : ∀ k, a.getD k 0 = b.getD k 0) : trim a = trim b :=
  trim_of (trim_trim a) (trim_trim b) fun k => by rw [trim_getD, trim_getD, h]
/-! ### sums and products -/
def addL (a b : List Int) : List Int := (List.range (max a.length b.length)).map fun i => a.getD i 0 + b.getD i 0
def sumTo : Nat → (Nat → Int) → Int
  | 0, _ => 0
  | n + 1, f => sumTo n f + f n
def conv (a b : List Int) (k : Nat) : Int := sumTo a.length fun i => if i ≤ k then a.getD i 0 * b.getD (k - i) 0 else 0
def mulL (a b : List Int) : List Int := (List.range (a.length + b.length)).map (conv a b)
def powL (a : List Int) : Nat → List Int
  | 0 => [1]
  | k + 1 => trim (mulL (powL a k) a)
def evalL (a : List Int) (v : Int) : Int := a.foldr (fun x f => f * v + x) 0
def Bd (l : List Int) (M : Nat) : Prop := ∀ x ∈ l, x.natAbs ≤ M
theorem Bd.mono {l : List Int} {M N : Nat} (h : Bd l M) (hn : M ≤ N) : Bd l N := fun x hx => Nat.le_trans (h x hx) hn
theorem Bd.getD {l : List Int} {M : Nat} (h : Bd l M) (k : Nat) : (l.getD k 0).natAbs ≤ M := by
  rw [List.getD_eq_getElem?_getD]
  cases q : l[k]? with
  | none => simp
  | some x => exact h x (List.mem_of_getElem? q)
theorem Bd.of {l : List Int} {M : Nat} (h : ∀ k, (l.getD k 0).natAbs ≤ M) : Bd l M := fun x hx => by
  obtain ⟨k, hk, e⟩ := List.mem_iff_getElem.mp hx
  have := h k
  rw [List.getD_eq_getElem?_getD, List.getElem?_eq_getElem hk, e] at this
  exact this
theorem Bd.trim {l : List Int} {M : Nat} (h : Bd l M) : Bd (trim l) M := Bd.of fun k => by rw [trim_getD]; exact h.getD k
theorem range_getD (n : Nat) (f : Nat → Int) (k : Nat) : ((List.range n).map f).getD k 0 = if k < n then f k else 0 := by
  rw [List.getD_eq_getElem?_getD, List.getElem?_map]
  by_cases h : k < n
  · simp [h]
  · simp [h]
theorem addL_getD (a b : List Int) (k : Nat) : (addL a b).getD k 0 = a.getD k 0 + b.getD k 0 := by
  unfold addL
  rw [range_getD]
  split
  · rfl
  · rename_i h
    rw [List.getD_eq_getElem?_getD, List.getD_eq_getElem?_getD, List.getElem?_eq_none (by omega), List.getElem?_eq_none (by omega)]
    rfl
theorem sumTo_zero (n : Nat) (f : Nat → Int) (h : ∀ i, i < n → f i = 0) : sumTo n f = 0 := by
  induction n with
  | zero => rfl
  | succ n ih => unfold sumTo; rw [ih fun i hi => h i (by omega), h n (by omega)]; rfl
theorem sumTo_bd (n : Nat) (f : Nat → Int) (M : Nat) (h : ∀ i, i < n → (f i).natAbs ≤ M) : (sumTo n f).natAbs ≤ n * M := by
  induction n with
  | zero => simp [sumTo]
  | succ n ih =>
    unfold sumTo
    have h1 := ih fun i hi => h i (by omega)
    have h2 := h n (by omega)
    have h3 := Int.natAbs_add_le (sumTo n f) (f n)
    rw [Nat.add_mul, Nat.one_mul]
    omega
theorem conv_big (a b : List Int) (k : Nat) (h : a.length + b.length ≤ k + 1) : conv a b k = 0 := sumTo_zero _ _ fun i hi => by
  split
  · rw [List.getD_eq_getElem?_getD (l := b), List.getElem?_eq_none (by omega)]
    simp
  · rfl
theorem mulL_getD (a b : List Int) (k : Nat) : (mulL a b).getD k 0 = conv a b k := by
  unfold mulL
  rw [range_getD]
  split
  · rfl
  · exact (conv_big a b k (by omega)).symm
theorem mulL_bd {a b : List Int} {A B : Nat} (ha : Bd a A) (hb : Bd b B) : Bd (mulL a b) (a.length * (A * B)) := Bd.of fun k => by
  rw [mulL_getD]
  refine sumTo_bd _ _ _ fun i _ => ?_
  split
  · rw [Int.natAbs_mul]
    exact Nat.mul_le_mul (ha.getD i) (hb.getD _)
  · simp
theorem mulL_len (a b : List Int) : (mulL a b).length = a.length + b.length := by unfold mulL; simp
theorem addL_len (a b : List Int) : (addL a b).length = max a.length b.length := by unfold addL; simp
theorem addL_bd {a b : List Int} {A B : Nat} (ha : Bd a A) (hb : Bd b B) : Bd (addL a b) (A + B) := Bd.of fun k => by
  rw [addL_getD]
  have h1 := ha.getD k
  have h2 := hb.getD k
  omega
theorem powL_bd {a : List Int} (hl : a.length ≤ 12) (ha : Bd a (2 ^ 100)) : ∀ k, k ≤ 12 → (powL a k).length ≤ 1 + 12 * k ∧ Bd (powL a k) (2 ^ (108 * k))
  | 0, _ => ⟨by simp [powL], fun x hx => by simp [powL] at hx; subst hx; decide⟩
  | k + 1, hk => by
    obtain ⟨h1, h2⟩ := powL_bd hl ha k (by omega)
    refine ⟨?_, ?_⟩
    · have := trim_len (mulL (powL a k) a)
      rw [mulL_len] at this
      show (trim (mulL (powL a k) a)).length ≤ _
      omega
    · refine (Bd.trim (mulL_bd h2 ha)).mono ?_
      rw [show 108 * (k + 1) = 108 * k + 108 by omega, Nat.pow_add, show (108 : Nat) = 8 + 100 by rfl, Nat.pow_add 2 8 100]
      have h3 : (powL a k).length ≤ 2 ^ 8 := by
        have : (2 : Nat) ^ 8 = 256 := by decide
        omega
      calc (powL a k).length * (2 ^ ((8 + 100) * k) * 2 ^ 100) ≤ 2 ^ 8 * (2 ^ ((8 + 100) * k) * 2 ^ 100) := Nat.mul_le_mul_right _ h3
        _ = 2 ^ ((8 + 100) * k) * (2 ^ 8 * 2 ^ 100) := by rw [Nat.mul_left_comm]
theorem powL_trim (a : List Int) : ∀ k, trim (powL a k) = powL a k
  | 0 => by simp [powL, trim]
  | k + 1 => trim_trim _
end DL

set_option maxHeartbeats 4000000
/-! PM2: sameness, dividing out, kinds. -/
namespace DL
open PySem PySem.Spec PyProof.Rows L2 LamX
def dtD : D → Bool
  | .ref _ | .ty _ | .exc _ | .scr _ => false
  | _ => true
def inB (d : D) (a b : Int) : Bool := match d with
  | .int i => decide (a ≤ i) && decide (i ≤ b)
  | _ => false
def okP (d : D) : Prop := eqOk 50 d = true ∨ d = .dic [] []
mutual
theorem eqOk_up : ∀ (n : Nat) (d : D), eqOk n d = true → eqOk (n + 1) d = true
  | n, .non, _ => by simp [eqOk]
  | n, .bl _, _ => by simp [eqOk]
  | n, .int _, _ => by simp [eqOk]
  | n, .str x, h => by simpa [eqOk] using h
  | 0, .lst _, h => by simp [eqOk] at h
  | 0, .tup _, h => by simp [eqOk] at h
  | n + 1, .lst l, h => by rw [eqOk] at h ⊢; exact eqOks_up n l h
  | n + 1, .tup l, h => by rw [eqOk] at h ⊢; exact eqOks_up n l h
  | n, .dic _ _, h => by cases n <;> simp [eqOk] at h
  | n, .ref _, h => by cases n <;> simp [eqOk] at h
  | n, .ty _, h => by cases n <;> simp [eqOk] at h
  | n, .exc _, h => by cases n <;> simp [eqOk] at h
  | n, .scr _, h => by cases n <;> simp [eqOk] at h
theorem eqOks_up : ∀ (n : Nat) (l : List D), eqOks n l = true → eqOks (n + 1) l = true
  | n, [], _ => by simp [eqOks]
  | n, d :: r, h => by
    simp only [eqOks, Bool.and_eq_true] at h ⊢
    exact ⟨eqOk_up n d h.1, eqOks_up n r h.2⟩
end
theorem eqOk_le {n m : Nat} (h : n ≤ m) {d : D} (e : eqOk n d = true) : eqOk m d = true := by
  induction h with
  | refl => exact e
  | step _ ih => exact eqOk_up _ _ ih
theorem eqOks_le {n m : Nat} (h : n ≤ m) {d : List D} (e : eqOks n d = true) : eqOks m d = true := by
  induction h with
  | refl => exact e
  | step _ ih => exact eqOks_up _ _ ih
theorem okP_dt {d : D} (h : okP d) : dtD d = true := by
  rcases h with h | h
  · cases d <;> first | rfl | simp [eqOk] at h
  · subst h; rfl
theorem eqOks_ints (n : Nat) : ∀ l : List Int, eqOks n (l.map D.int) = true
  | [] => by simp [eqOks]
  | x :: r => by
    rw [List.map_cons, eqOks, eqOks_ints n r]
    cases n <;> simp [eqOk]
theorem eqOk_tI (n : Nat) (l : List Int) : eqOk (n + 1) (tI l) = true := by unfold tI; rw [eqOk]; exact eqOks_ints n l
theorem eqOk_lI (n : Nat) (l : List Int) : eqOk (n + 1) (lI l) = true := by unfold lI; rw [eqOk]; exact eqOks_ints n l
theorem toPys_ints : ∀ l : List Int, toPys (l.map D.int) = l.map PyData.int
  | [] => rfl
  | x :: r => by rw [List.map_cons, toPys, toPys_ints r, toPy]; rfl
theorem eqvAll_ints : ∀ a b : List Int, PyData.eqvAll (a.map PyData.int) (b.map PyData.int) = decide (a = b)
  | [], [] => by simp [PyData.eqvAll]
  | [], _ :: _ => by simp [PyData.eqvAll]
  | _ :: _, [] => by simp [PyData.eqvAll]
  | x :: a, y :: b => by
    simp only [List.map_cons, PyData.eqvAll, PyData.eqv, eqvAll_ints a b]
    by_cases h : x = y <;> simp [h]
theorem eqD_tI (a b : List Int) : eqD (tI a) (tI b) = decide (a = b) := by
  unfold eqD tI
  rw [toPy, toPy, toPys_ints, toPys_ints, PyData.eqv, eqvAll_ints]
theorem eqD_lI (a b : List Int) : eqD (lI a) (lI b) = decide (a = b) := by
  unfold eqD lI
  rw [toPy, toPy, toPys_ints, toPys_ints, PyData.eqv, eqvAll_ints]
theorem eqD_int (a b : Int) : eqD (.int a) (.int b) = decide (a = b) := by
  unfold eqD
  rw [toPy, toPy, PyData.eqv]
  by_cases h : a = b <;> simp [h]
mutual
theorem eqv_self : ∀ (n : Nat) (d : D), eqOk n d = true → PyData.eqv (toPy d) (toPy d) = true
  | n, .non, _ => by simp [toPy, PyData.eqv]
  | n, .bl _, _ => by simp [toPy, PyData.eqv]
  | n, .int _, _ => by simp [toPy, PyData.eqv]
  | n, .str x, h => by simp [toPy, PyData.eqv]
  | 0, .lst _, h => by simp [eqOk] at h
  | 0, .tup _, h => by simp [eqOk] at h
  | n + 1, .lst l, h => by rw [eqOk] at h; rw [toPy, PyData.eqv]; exact eqvs_self n l h
  | n + 1, .tup l, h => by rw [eqOk] at h; rw [toPy, PyData.eqv]; exact eqvs_self n l h
  | n, .dic _ _, h => by cases n <;> simp [eqOk] at h
  | n, .ref _, h => by cases n <;> simp [eqOk] at h
  | n, .ty _, h => by cases n <;> simp [eqOk] at h
  | n, .exc _, h => by cases n <;> simp [eqOk] at h
  | n, .scr _, h => by cases n <;> simp [eqOk] at h
theorem eqvs_self : ∀ (n : Nat) (l : List D), eqOks n l = true → PyData.eqvAll (toPys l) (toPys l) = true
  | n, [], _ => by simp [toPys, PyData.eqvAll]
  | n, d :: r, h => by
    simp only [eqOks, Bool.and_eq_true] at h
    rw [toPys, PyData.eqvAll, eqv_self n d h.1, eqvs_self n r h.2]; rfl
end
theorem eqD_self {n : Nat} {d : D} (h : eqOk n d = true) : eqD d d = true := eqv_self n d h
theorem tI_len (l : List Int) : (l.map D.int).length = l.length := List.length_map ..
theorem tI_inj {a b : List Int} (h : tI a = tI b) : a = b := by
  unfold tI at h
  have h := D.tup.inj h
  exact (List.map_inj_right (fun x y e => D.int.inj e)).mp h
theorem ints_of_all : ∀ {l : List D}, l.all isW = true → ∃ m : List Int, l = m.map D.int
  | [], _ => ⟨[], rfl⟩
  | x :: r, h2 => by
    simp only [List.all_cons, Bool.and_eq_true] at h2
    obtain ⟨m, rfl⟩ := ints_of_all h2.2
    cases x <;> first | (simp [isW] at h2; done) | skip
    rename_i i
    exact ⟨i :: m, rfl⟩
/-- a polynomial's own shape -/
theorem poly_shape {d : D} (h : isPolyB d = true) : ∃ l, d = tI l ∧ l.length ≤ 200 ∧ trim l = l := by
  cases d <;> first | (simp [isPolyB] at h; done) | skip
  rename_i l
  simp only [isPolyB, Bool.and_eq_true, decide_eq_true_eq] at h
  obtain ⟨h1, h2, h3⟩ := h
  have hl := ints_of_all h2
  obtain ⟨m, rfl⟩ := hl
  refine ⟨m, rfl, by simpa using h1, ?_⟩
  induction m using snoc_ind with
  | h0 => rfl
  | h1 m x _ =>
    simp [lastNZ, isZ] at h3
    exact trim_nz m h3
theorem poly_of {l : List Int} (h : l.length ≤ 200) (ht : trim l = l) : isPolyB (tI l) = true := by
  unfold tI isPolyB
  have h2 : (l.map D.int).all isW = true := by
    rw [List.all_eq_true]
    intro x hx
    obtain ⟨i, _, rfl⟩ := List.mem_map.mp hx
    rfl
  dsimp only
  rw [h2]
  rcases trim_last l with e | ⟨m, x, e, hx⟩
  · rw [ht] at e; subst e; simp [lastNZ]
  · rw [ht] at e; subst e
    simp [lastNZ, isZ, hx] at h ⊢
    exact h
end DL

set_option maxHeartbeats 4000000
/-! PM3: dividing out, kinds, roots. -/
namespace DL
open PySem PySem.Spec PyProof.Rows L2 LamX
def outL : Nat → Int → Int → Int → Int × Int
  | 0, l, _, o => (l, o)
  | f + 1, l, t, o => if l.fmod t = 0 then outL f (l.fdiv t) t (o + 1) else (l, o)
def splG : Nat → Int → Int → List (Int × Int)
  | 0, _, _ => []
  | f + 1, l, t => if t * t ≤ l then (if (outL l.toNat l t 0).2 > 0 then [(t, (outL l.toNat l t 0).2)] else []) ++ splG f (outL l.toNat l t 0).1 (t + 1) else if l > 1 then [(l, 1)] else []
def splF (n : Int) : List (Int × Int) := splG (n.toNat + 1) n 2
def pairD (p : Int × Int) : D := .tup [.int p.1, .int p.2]
def pairsD (l : List (Int × Int)) : List D := l.map pairD
def primeB (n : Int) : Bool := decide (1 < n) && decide (splF n = [(n, 1)])
def prims : List Int := [2, 3, 5, 7, 11, 13, 17, 19, 23, 29, 31, 37]
def nxtP (n : Int) : Option Int := (prims.drop 1)[prims.findIdx (fun x => decide (x = n))]?
def fstD (a b : List Int) : D := if a = b then .non else .int ((prims.find? fun p => !decide (evalL a p = evalL b p)).getD 0)
theorem nxt_ok : ∀ n q, nxtP n = some q → 2 ≤ n ∧ n < q ∧ q ≤ 37 ∧ primeB q = true ∧ ∀ i : Int, n < i → i < q → primeB i = false := by
  have key : ∀ n ∈ prims, ∀ q, nxtP n = some q → 2 ≤ n ∧ n < q ∧ q ≤ 37 ∧ primeB q = true ∧ ∀ k : Nat, k < 40 → n < (k : Int) → (k : Int) < q → primeB k = false := by
    intro n hn q hq
    have hall : ∀ n ∈ prims, (match nxtP n with
      | none => true
      | some q => decide (2 ≤ n) && (decide (n < q) && (decide (q ≤ 37) && (primeB q && (List.range 40).all fun k => !(decide (n < (k : Int)) && decide ((k : Int) < q)) || !primeB k)))) = true := by decide +kernel
    have h := hall n hn
    rw [hq] at h
    simp only [Bool.and_eq_true, decide_eq_true_eq, List.all_eq_true, Bool.or_eq_true, Bool.not_eq_true', Bool.and_eq_false_iff, decide_eq_false_iff_not] at h
    obtain ⟨h1, h2, h3, h4, h5⟩ := h
    refine ⟨h1, h2, h3, h4, fun k hk a b => ?_⟩
    rcases h5 k (List.mem_range.mpr hk) with z | z
    · rcases z with z | z
      · exact absurd a z
      · exact absurd b z
    · exact z
  intro n q hq
  have hn : n ∈ prims := by
    unfold nxtP at hq
    obtain ⟨h1, _⟩ := List.getElem?_eq_some_iff.mp hq
    have : prims.findIdx (fun x => decide (x = n)) < prims.length := by
      simp only [List.length_drop] at h1
      omega
    have := List.findIdx_getElem (w := this)
    simp at this
    rw [← this]
    exact List.getElem_mem _
  obtain ⟨h1, h2, h3, h4, h5⟩ := key n hn q hq
  refine ⟨h1, h2, h3, h4, fun i a b => ?_⟩
  have e : (i.toNat : Int) = i := Int.toNat_of_nonneg (by omega)
  have := h5 i.toNat (by omega) (by omega) (by omega)
  rwa [e] at this
/-! ### kinds -/
mutual
def szD : D → Nat
  | .lst l => 1 + szs l
  | .tup l => 1 + szs l
  | _ => 1
def szs : List D → Nat
  | [] => 0
  | d :: r => szD d + szs r
end
theorem szs_append : ∀ a b : List D, szs (a ++ b) = szs a + szs b
  | [], b => by simp [szs]
  | d :: r, b => by rw [List.cons_append, szs, szs, szs_append r b]; omega
theorem szD_pos (d : D) : 1 ≤ szD d := by cases d <;> simp [szD]
theorem szs_len : ∀ l : List D, l.length ≤ szs l
  | [] => by simp [szs]
  | d :: r => by have := szs_len r; have := szD_pos d; rw [szs, List.length_cons]; omega
def kindS : D → Str
  | .non => "None"
  | .bl b => if b then "True" else "False"
  | .int _ => "number"
  | .str _ => "string"
  | .lst _ => "list"
  | _ => "tuple"
def subs : D → List D
  | .lst l => l
  | .tup l => l
  | _ => []
/-- what is found from this line on: n turns -/
def kgo : Nat → List D → List D
  | 0, _ => []
  | n + 1, line => match line.getLast? with
    | none => []
    | some d => .str (kindS d) :: kgo n (line.dropLast ++ subs d)
def kindsD (d : D) : D := .lst (kgo (szD d) [d])
theorem kgo_snoc (n : Nat) (r : List D) (d : D) : kgo (n + 1) (r ++ [d]) = .str (kindS d) :: kgo n (r ++ subs d) := by
  rw [kgo]
  simp
/-! ### roots -/
/-- a divided by x - r (the highest place first drops away) -/
def synth (r : Int) : List Int → List Int
  | [] => []
  | x :: l => evalL l r :: synth r l
theorem evalL_cons (x : Int) (l : List Int) (v : Int) : evalL (x :: l) v = evalL l v * v + x := rfl
theorem synth_len (r : Int) : ∀ l : List Int, (synth r l).length = l.length
  | [] => rfl
  | x :: l => by simp [synth, synth_len r l]
/-- a(v) - a(r) = (v - r) * q(v) -/
theorem synth_eval (r v : Int) : ∀ l : List Int, evalL l v - evalL l r = (v - r) * evalL (synth r l) v
  | [] => by simp [evalL, synth]
  | x :: l => by
    rw [synth, evalL_cons, evalL_cons, evalL_cons]
    have ih := synth_eval r v l
    rw [Int.mul_add]
    have e : (v - r) * (evalL (synth r l) v * v) = (evalL l v - evalL l r) * v := by rw [ih, Int.mul_assoc]
    rw [e, Int.sub_mul, Int.sub_mul, Int.mul_comm v (evalL l r), Int.mul_comm r (evalL l r)]
    omega
/-- the last place of synth is 0 -/
theorem synth_last (r : Int) : ∀ (l : List Int) (x : Int), ∃ m, synth r (l ++ [x]) = m ++ [0] ∧ m.length = l.length
  | [], x => ⟨[], by simp [synth, evalL], rfl⟩
  | y :: l, x => by
    obtain ⟨m, e, hl⟩ := synth_last r l x
    exact ⟨evalL (l ++ [x]) r :: m, by rw [List.cons_append, synth, e, List.cons_append], by simp [hl]⟩
theorem evalL_zero_snoc (l : List Int) (v : Int) : evalL (l ++ [0]) v = evalL l v := by
  unfold evalL
  rw [List.foldr_append]
  simp
/-- as many roots as places: nothing -/
theorem roots (n : Nat) : ∀ (l rs : List Int), l.length = n → n ≤ rs.length → rs.Nodup → (∀ r ∈ rs, evalL l r = 0) → ∀ v, evalL l v = 0 := by
  induction n with
  | zero =>
    intro l rs hl _ _ _ v
    have : l = [] := List.length_eq_zero_iff.mp hl
    subst this; rfl
  | succ n ih =>
    intro l rs hl hn nd hz v
    cases rs with
    | nil => simp at hn
    | cons r rs =>
      have hr := hz r List.mem_cons_self
      obtain ⟨m, x, e⟩ : ∃ m x, l = m ++ [x] := by
        rcases List.eq_nil_or_concat l with z | ⟨m, x, z⟩
        · rw [z] at hl; simp at hl
        · exact ⟨m, x, by rw [z, List.concat_eq_append]⟩
      obtain ⟨q, eq, hq⟩ := synth_last r m x
      rw [← e] at eq
      have hql : q.length = n := by rw [e] at hl; simp at hl; omega
      obtain ⟨nr, nd'⟩ := List.nodup_cons.mp nd
      have key : ∀ w, evalL l w = (w - r) * evalL q w := fun w => by
        have h := synth_eval r w l
        rw [hr, eq, evalL_zero_snoc] at h
        omega
      have hz' : ∀ s ∈ rs, evalL q s = 0 := fun s hs => by
        have h1 := hz s (List.mem_cons_of_mem _ hs)
        rw [key s] at h1
        rcases Int.mul_eq_zero.mp h1 with z | z
        · exact absurd (show s = r by omega) fun z => nr (z ▸ hs)
        · exact z
      rw [key v, ih q rs hql (by simpa using hn) nd' hz' v, Int.mul_zero]
/-- a polynomial that is 0 everywhere has no places -/
theorem zero_places : ∀ (l : List Int), (∀ v, evalL l v = 0) → ∀ k, l.getD k 0 = 0
  | [], _, k => by simp
  | x :: l, h, k => by
    have hx : x = 0 := by
      have := h 0
      rw [evalL_cons] at this
      simpa using this
    subst hx
    have hl : ∀ v, v ≠ 0 → evalL l v = 0 := fun v hv => by
      have := h v
      rw [evalL_cons, Int.add_zero] at this
      rcases Int.mul_eq_zero.mp this with z | z
      · exact z
      · exact absurd z hv
    have hall : ∀ v, evalL l v = 0 := by
      refine roots l.length l ((List.range l.length).map fun i => ((i : Nat) : Int) + 1) rfl (by simp) ?_ fun r hr => ?_
      · refine List.Pairwise.map _ (fun a b h => ?_) List.nodup_range
        omega
      · obtain ⟨i, _, rfl⟩ := List.mem_map.mp hr
        exact hl _ (by omega)
    cases k with
    | zero => simp
    | succ k =>
      have := zero_places l hall k
      simpa using this
def subL (a b : List Int) : List Int := (List.range (max a.length b.length)).map fun i => a.getD i 0 - b.getD i 0
theorem evalL_pad (v : Int) : ∀ (n : Nat) (l : List Int), l.length ≤ n → evalL ((List.range n).map fun i => l.getD i 0) v = evalL l v
  | 0, l, h => by
    have : l = [] := List.length_eq_zero_iff.mp (by omega)
    subst this; rfl
  | n + 1, [], h => by
    rw [List.range_succ_eq_map, List.map_cons, List.map_map, evalL_cons]
    have := evalL_pad v n [] (by simp)
    simp only [List.getD_nil] at this ⊢
    have e : ((fun (i : Nat) => (0 : Int)) ∘ Nat.succ) = fun _ => 0 := rfl
    rw [e, this]
    simp [evalL]
  | n + 1, x :: l, h => by
    rw [List.range_succ_eq_map, List.map_cons, List.map_map, evalL_cons, evalL_cons]
    have := evalL_pad v n l (by simpa using h)
    have e : ((fun i => (x :: l).getD i 0) ∘ Nat.succ) = fun i => l.getD i 0 := rfl
    rw [e, this]; rfl
theorem evalL_sub (v : Int) (f g : Nat → Int) : ∀ (l : List Nat), evalL (l.map fun i => f i - g i) v = evalL (l.map f) v - evalL (l.map g) v
  | [] => rfl
  | i :: l => by
    rw [List.map_cons, List.map_cons, List.map_cons, evalL_cons, evalL_cons, evalL_cons, evalL_sub v f g l, Int.sub_mul]
    omega
theorem parts {a b : List Int} (ha : trim a = a) (hb : trim b = b) (la : a.length ≤ 12) (lb : b.length ≤ 12) (h : ∀ p ∈ prims, evalL a p = evalL b p) : a = b := by
  refine trim_of ha hb fun k => ?_
  have hz : ∀ v, evalL (subL a b) v = 0 := by
    refine roots (subL a b).length _ prims rfl (by unfold subL; simp [prims]; omega) (by decide) fun r hr => ?_
    unfold subL
    rw [evalL_sub, evalL_pad _ _ _ (by omega), evalL_pad _ _ _ (by omega), h r hr]
    omega
  have := zero_places _ hz k
  unfold subL at this
  rw [range_getD] at this
  split at this
  · omega
  · rename_i hk
    rw [List.getD_eq_getElem?_getD, List.getD_eq_getElem?_getD, List.getElem?_eq_none (by omega), List.getElem?_eq_none (by omega)]
end DL

set_option maxHeartbeats 4000000
/-! PP0: rules for plain readings. -/
namespace DL
open PySem PySem.Spec PyProof.Rows L2 LamX
theorem runFor_inv {g : PTG} {b : PTS} {PD : PEnds} (I : Nat → List PV → Prop) : ∀ (items : List D) (k : Nat) (ps : List PV), I k ps →
    (∀ (i : Nat) (d : D) (ps : List PV) (K : List PV → Prop), items[i]? = some d → I (k + i) ps → (∀ ps', I (k + i + 1) ps' → K ps') → g d ps fun ps1 => b { PD with nx := K, ct := K, bk := PD.nx } ps1) →
    (∀ ps, I (k + items.length) ps → PD.nx ps) → runFor g b PD items ps
  | [], k, ps, h, _, fin => fin ps (by simpa using h)
  | d :: r, k, ps, h, step, fin => by
    refine step 0 d ps _ rfl (by simpa using h) fun ps' h' => runFor_inv I r (k + 1) ps' (by simpa using h') (fun i d' ps'' K e hi hK => ?_) (fun ps'' h'' => fin ps'' ?_)
    · exact step (i + 1) d' ps'' K (by simpa using e) (by rw [show k + (i + 1) = k + 1 + i by omega]; exact hi) fun z hz => hK z (by rw [show k + (i + 1) + 1 = k + 1 + i + 1 by omega] at hz; exact hz)
    · rw [List.length_cons, show k + (r.length + 1) = k + 1 + r.length by omega]; exact h''
theorem runLc_inv {g : PTG} {t : PTT} {e : PTE} {vs : List Nat} {Q : RV → List PV → Prop} (J : Nat → List D → Prop) (P : List PV) : ∀ (items : List D) (k : Nat) (acc : List D), J k acc →
    (∀ (i : Nat) (d : D) (acc : List D) (K : List D → List PV → Prop), items[i]? = some d → J (k + i) acc → (∀ acc', J (k + i + 1) acc' → K acc' P) →
      g d P fun ps1 => t ps1 (fun b ps2 => if b = true then e ps2 (fun rv ps3 => frz rv ps3 fun dd ps4 => acc.length < sizeLine ∧ K (acc ++ [dd]) (pwipe ps4 vs)) noEr else K acc (pwipe ps2 vs)) noEr) →
    (∀ acc, J (k + items.length) acc → Q (.f (.lst acc)) P) → runLc g t e vs Q items acc P
  | [], k, acc, h, _, fin => fin acc (by simpa using h)
  | d :: r, k, acc, h, step, fin => by
    refine step 0 d acc (fun a p => runLc g t e vs Q r a p) rfl (by simpa using h) fun acc' h' => runLc_inv J P r (k + 1) acc' (by simpa using h') (fun i d' acc'' K e' hi hK => ?_) (fun acc'' h'' => fin acc'' ?_)
    · exact step (i + 1) d' acc'' K (by simpa using e') (by rw [show k + (i + 1) = k + 1 + i by omega]; exact hi) fun z hz => hK z (by rw [show k + (i + 1) + 1 = k + 1 + i + 1 by omega] at hz; exact hz)
    · rw [List.length_cons, show k + (r.length + 1) = k + 1 + r.length by omega]; exact h''
theorem ite_b {b : Bool} {P Q : Prop} (h1 : b = true → P) (h2 : b = false → Q) : if b = true then P else Q := by
  cases b
  · rw [if_neg Bool.false_ne_true]; exact h2 rfl
  · rw [if_pos rfl]; exact h1 rfl
theorem sizeL {n : Nat} (h : n ≤ 100000) : n ≤ sizeLine := Nat.le_trans h (by decide)
theorem sizeLt {n : Nat} (h : n ≤ 100000) : n < sizeLine := Nat.lt_of_le_of_lt h (by decide)
theorem isi_int {d : D} (h : dtD d = true) : ∃ b, isC d .int = some b ∧ ∃ c, isC d .bool = some c ∧ (b && !c) = isW d := by
  cases d <;> first | (simp [dtD] at h; done) | skip
  all_goals exact ⟨_, rfl, _, rfl, rfl⟩
theorem isi_tup {d : D} (h : dtD d = true) : isC d .tuple = some (match d with | .tup _ => true | _ => false) := by
  cases d <;> first | (simp [dtD] at h; done) | rfl
theorem atI_nn {α : Type} {l : List α} {i : Int} {x : α} (h0 : 0 ≤ i) (h : l[i.toNat]? = some x) : atI l i = some x := by
  obtain ⟨h1, _⟩ := List.getElem?_eq_some_iff.mp h
  unfold atI ixN
  rw [if_pos h0, if_pos (by omega)]
  exact h
theorem atI_last {α : Type} {l : List α} {x : α} : atI (l ++ [x]) (-1) = some x := by
  unfold atI ixN
  rw [if_neg (by decide), if_pos (by simp; omega)]
  simp
  rw [show (-1 + ((l.length : Int) + 1)).toNat = l.length by omega]
  simp
theorem ixN_nn {n : Nat} {i : Int} (h0 : 0 ≤ i) (h : i < n) : ixN n i = some i.toNat := by
  unfold ixN
  rw [if_pos h0, if_pos h]
end DL

set_option maxHeartbeats 4000000
namespace DL
open PySem PySem.Spec PyProof.Rows L2 LamX
def topS (i : Nat) : Stmt := PySem.Challenge.pw_toldatpowers_k00_whole_polynomials.main.body.getD i (.Pass ⟨0, 0, 0, 0⟩)
def errN : List Str := ["PowerError", "BadMany", "BadOne", "BadOther", "BadPoly", "BadValue"]
structure Tx (K : PySem.W.Frag) (mg : Str → Option Value) : Prop where
  b : Blt mg
  d_is_whole : ∃ f fd, mg "is_whole" = some (.ref f) ∧ Fun K "is_whole" "is_whole" (topS 1) f fd
  r_is_whole : ∃ f, mg "is_whole" = some (.ref f)
  d_is_within : ∃ f fd, mg "is_within" = some (.ref f) ∧ Fun K "is_within" "is_within" (topS 2) f fd
  r_is_within : ∃ f, mg "is_within" = some (.ref f)
  d_split : ∃ f fd, mg "split" = some (.ref f) ∧ Fun K "split" "split" (topS 3) f fd
  r_split : ∃ f, mg "split" = some (.ref f)
  d_is_prime : ∃ f fd, mg "is_prime" = some (.ref f) ∧ Fun K "is_prime" "is_prime" (topS 4) f fd
  r_is_prime : ∃ f, mg "is_prime" = some (.ref f)
  d_next_prime : ∃ f fd, mg "next_prime" = some (.ref f) ∧ Fun K "next_prime" "next_prime" (topS 5) f fd
  r_next_prime : ∃ f, mg "next_prime" = some (.ref f)
  d_is_poly_by : ∃ f fd, mg "is_poly_by" = some (.ref f) ∧ Fun K "is_poly_by" "is_poly_by" (topS 16) f fd
  r_is_poly_by : ∃ f, mg "is_poly_by" = some (.ref f)
  d_trimmed : ∃ f fd, mg "trimmed" = some (.ref f) ∧ Fun K "trimmed" "trimmed" (topS 17) f fd
  r_trimmed : ∃ f, mg "trimmed" = some (.ref f)
  d_added_by : ∃ f fd, mg "added_by" = some (.ref f) ∧ Fun K "added_by" "added_by" (topS 18) f fd
  r_added_by : ∃ f, mg "added_by" = some (.ref f)
  d_times_by : ∃ f fd, mg "times_by" = some (.ref f) ∧ Fun K "times_by" "times_by" (topS 19) f fd
  r_times_by : ∃ f, mg "times_by" = some (.ref f)
  d_power_by : ∃ f fd, mg "power_by" = some (.ref f) ∧ Fun K "power_by" "power_by" (topS 20) f fd
  r_power_by : ∃ f, mg "power_by" = some (.ref f)
  d_at_by : ∃ f fd, mg "at_by" = some (.ref f) ∧ Fun K "at_by" "at_by" (topS 21) f fd
  r_at_by : ∃ f, mg "at_by" = some (.ref f)
  d_unlike_prime : ∃ f fd, mg "unlike_prime" = some (.ref f) ∧ Fun K "unlike_prime" "unlike_prime" (topS 22) f fd
  r_unlike_prime : ∃ f, mg "unlike_prime" = some (.ref f)
  d_need_poly : ∃ f fd, mg "need_poly" = some (.ref f) ∧ Fun K "need_poly" "need_poly" (topS 23) f fd
  r_need_poly : ∃ f, mg "need_poly" = some (.ref f)
  d_need_two : ∃ f fd, mg "need_two" = some (.ref f) ∧ Fun K "need_two" "need_two" (topS 24) f fd
  r_need_two : ∃ f, mg "need_two" = some (.ref f)
  d_is_poly : ∃ f fd, mg "is_poly" = some (.ref f) ∧ Fun K "is_poly" "is_poly" (topS 25) f fd
  r_is_poly : ∃ f, mg "is_poly" = some (.ref f)
  d_poly_at : ∃ f fd, mg "poly_at" = some (.ref f) ∧ Fun K "poly_at" "poly_at" (topS 26) f fd
  r_poly_at : ∃ f, mg "poly_at" = some (.ref f)
  d_poly_added : ∃ f fd, mg "poly_added" = some (.ref f) ∧ Fun K "poly_added" "poly_added" (topS 27) f fd
  r_poly_added : ∃ f, mg "poly_added" = some (.ref f)
  d_poly_times : ∃ f fd, mg "poly_times" = some (.ref f) ∧ Fun K "poly_times" "poly_times" (topS 28) f fd
  r_poly_times : ∃ f, mg "poly_times" = some (.ref f)
  d_poly_power : ∃ f fd, mg "poly_power" = some (.ref f) ∧ Fun K "poly_power" "poly_power" (topS 29) f fd
  r_poly_power : ∃ f, mg "poly_power" = some (.ref f)
  d_poly_parting : ∃ f fd, mg "poly_parting" = some (.ref f) ∧ Fun K "poly_parting" "poly_parting" (topS 30) f fd
  r_poly_parting : ∃ f, mg "poly_parting" = some (.ref f)
  d_law_begun : ∃ f fd, mg "_law_begun" = some (.ref f) ∧ Fun K "_law_begun" "_law_begun" (topS 32) f fd
  r_law_begun : ∃ f, mg "_law_begun" = some (.ref f)
  d_law_mixed : ∃ f fd, mg "_law_mixed" = some (.ref f) ∧ Fun K "_law_mixed" "_law_mixed" (topS 33) f fd
  r_law_mixed : ∃ f, mg "_law_mixed" = some (.ref f)
  d_law_take : ∃ f fd, mg "_law_take" = some (.ref f) ∧ Fun K "_law_take" "_law_take" (topS 34) f fd
  r_law_take : ∃ f, mg "_law_take" = some (.ref f)
  d_law_pick : ∃ f fd, mg "_law_pick" = some (.ref f) ∧ Fun K "_law_pick" "_law_pick" (topS 35) f fd
  r_law_pick : ∃ f, mg "_law_pick" = some (.ref f)
  d_law_caught : ∃ f fd, mg "_law_caught" = some (.ref f) ∧ Fun K "_law_caught" "_law_caught" (topS 36) f fd
  r_law_caught : ∃ f, mg "_law_caught" = some (.ref f)
  d_law_kinds : ∃ f fd, mg "_law_kinds" = some (.ref f) ∧ Fun K "_law_kinds" "_law_kinds" (topS 37) f fd
  r_law_kinds : ∃ f, mg "_law_kinds" = some (.ref f)
  d_law_says : ∃ f fd, mg "_law_says" = some (.ref f) ∧ Fun K "_law_says" "_law_says" (topS 38) f fd
  r_law_says : ∃ f, mg "_law_says" = some (.ref f)
  d_law_is_number : ∃ f fd, mg "_law_is_number" = some (.ref f) ∧ Fun K "_law_is_number" "_law_is_number" (topS 39) f fd
  r_law_is_number : ∃ f, mg "_law_is_number" = some (.ref f)
  d_law_odd : ∃ f fd, mg "_law_odd" = some (.ref f) ∧ Fun K "_law_odd" "_law_odd" (topS 40) f fd
  r_law_odd : ∃ f, mg "_law_odd" = some (.ref f)
  d_law_number : ∃ f fd, mg "_law_number" = some (.ref f) ∧ Fun K "_law_number" "_law_number" (topS 41) f fd
  r_law_number : ∃ f, mg "_law_number" = some (.ref f)
  d_law_trim : ∃ f fd, mg "_law_trim" = some (.ref f) ∧ Fun K "_law_trim" "_law_trim" (topS 42) f fd
  r_law_trim : ∃ f, mg "_law_trim" = some (.ref f)
  d_law_plus : ∃ f fd, mg "_law_plus" = some (.ref f) ∧ Fun K "_law_plus" "_law_plus" (topS 43) f fd
  r_law_plus : ∃ f, mg "_law_plus" = some (.ref f)
  d_law_product : ∃ f fd, mg "_law_product" = some (.ref f) ∧ Fun K "_law_product" "_law_product" (topS 44) f fd
  r_law_product : ∃ f, mg "_law_product" = some (.ref f)
  d_law_at : ∃ f fd, mg "_law_at" = some (.ref f) ∧ Fun K "_law_at" "_law_at" (topS 45) f fd
  r_law_at : ∃ f, mg "_law_at" = some (.ref f)
  d_law_poly : ∃ f fd, mg "_law_poly" = some (.ref f) ∧ Fun K "_law_poly" "_law_poly" (topS 46) f fd
  r_law_poly : ∃ f, mg "_law_poly" = some (.ref f)
  d_law_is_poly : ∃ f fd, mg "_law_is_poly" = some (.ref f) ∧ Fun K "_law_is_poly" "_law_is_poly" (topS 47) f fd
  r_law_is_poly : ∃ f, mg "_law_is_poly" = some (.ref f)
  d_law_right : ∃ f fd, mg "_law_right" = some (.ref f) ∧ Fun K "_law_right" "_law_right" (topS 48) f fd
  r_law_right : ∃ f, mg "_law_right" = some (.ref f)
  d_law : ∃ f fd, mg "law" = some (.ref f) ∧ Fun K "law" "law" (topS 49) f fd
  r_law : ∃ f, mg "law" = some (.ref f)
  c_MOST_PLACES : ∃ t, mg "MOST_PLACES" = some (.int 200 t)
  c_MOST_POWER : ∃ t, mg "MOST_POWER" = some (.int 12 t)
  e_PowerError : ∃ C, ExcT K mg "PowerError" C
  r_PowerError : ∃ f, mg "PowerError" = some (.ref f)
  k_PowerError : ∀ C, mg "PowerError" = some (.ref C) → ExcI K C
  e_BadMany : ∃ C, ExcT K mg "BadMany" C
  r_BadMany : ∃ f, mg "BadMany" = some (.ref f)
  k_BadMany : ∀ C, mg "BadMany" = some (.ref C) → ExcI K C
  e_BadOne : ∃ C, ExcT K mg "BadOne" C
  r_BadOne : ∃ f, mg "BadOne" = some (.ref f)
  k_BadOne : ∀ C, mg "BadOne" = some (.ref C) → ExcI K C
  e_BadOther : ∃ C, ExcT K mg "BadOther" C
  r_BadOther : ∃ f, mg "BadOther" = some (.ref f)
  k_BadOther : ∀ C, mg "BadOther" = some (.ref C) → ExcI K C
  e_BadPoly : ∃ C, ExcT K mg "BadPoly" C
  r_BadPoly : ∃ f, mg "BadPoly" = some (.ref f)
  k_BadPoly : ∀ C, mg "BadPoly" = some (.ref C) → ExcI K C
  e_BadValue : ∃ C, ExcT K mg "BadValue" C
  r_BadValue : ∃ f, mg "BadValue" = some (.ref f)
  k_BadValue : ∀ C, mg "BadValue" = some (.ref C) → ExcI K C
  cat : CatT K mg errN
abbrev lawT (PL : Addr) : List (Addr × Str) := [(PL, "law.<locals>.<lambda>")]
/-! ## the promises -/
def erN (mg : Str → Option Value) (x : Str) (er : PEr) : Prop := ∀ C, mg x = some (.ref C) → er ⟨C, none⟩
def sp_is_whole (mg : Str → Option Value) : PSpec := fun da ds Q er => ∃ d, ds = [d] ∧ dtD d = true ∧ Q (.bl (isW d))
def sp_is_within (mg : Str → Option Value) : PSpec := fun da ds Q er => ∃ d a b, ds = [d, .int a, .int b] ∧ dtD d = true ∧ Q (.bl (inB d a b))
def sp_split (mg : Str → Option Value) : PSpec := fun da ds Q er => ∃ n, ds = [.int n] ∧ 1 ≤ n ∧ n < 2 ^ 60 ∧ Q (.lst (pairsD (splF n)))
def sp_is_prime (mg : Str → Option Value) : PSpec := fun da ds Q er => ∃ n, ds = [.int n] ∧ n < 2 ^ 60 ∧ Q (.bl (primeB n))
def sp_next_prime (mg : Str → Option Value) : PSpec := fun da ds Q er => ∃ n q, ds = [.int n] ∧ nxtP n = some q ∧ Q (.int q)
def sp_is_poly_by (mg : Str → Option Value) : PSpec := fun da ds Q er => ∃ d, ds = [d] ∧ okP d ∧ Q (.bl (isPolyB d))
def sp_trimmed (mg : Str → Option Value) : PSpec := fun da ds Q er => ∃ l, ds = [lI l] ∧ l.length ≤ 1000 ∧ Q (tI (trim l))
def sp_added_by (mg : Str → Option Value) : PSpec := fun da ds Q er => ∃ a b, ds = [tI a, tI b] ∧ a.length ≤ 1000 ∧ b.length ≤ 1000 ∧ Q (tI (trim (addL a b)))
def sp_times_by (mg : Str → Option Value) : PSpec := fun da ds Q er => ∃ a b, ds = [tI a, tI b] ∧ a.length ≤ 400 ∧ b.length ≤ 400 ∧ Bd a (2 ^ 10000) ∧ Bd b (2 ^ 10000) ∧ Q (tI (trim (mulL a b)))
def sp_power_by (mg : Str → Option Value) : PSpec := fun da ds Q er => ∃ a k, ds = [tI a, .int k] ∧ a.length ≤ 12 ∧ Bd a (2 ^ 100) ∧ 0 ≤ k ∧ k ≤ 12 ∧ Q (tI (powL a k.toNat))
def sp_at_by (mg : Str → Option Value) : PSpec := fun da ds Q er => ∃ a v, ds = [tI a, .int v] ∧ a.length ≤ 400 ∧ Bd a (2 ^ 1000) ∧ v.natAbs < 2 ^ 1000 ∧ Q (.int (evalL a v))
def sp_unlike_prime (mg : Str → Option Value) : PSpec := fun da ds Q er => ∃ a b, ds = [tI a, tI b] ∧ trim a = a ∧ trim b = b ∧ a.length ≤ 12 ∧ b.length ≤ 12 ∧ Bd a (2 ^ 1000) ∧ Bd b (2 ^ 1000) ∧ Q (fstD a b)
def sp_need_poly (mg : Str → Option Value) : PSpec := fun da ds Q er => ∃ d, ds = [d] ∧ okP d ∧ (isPolyB d = true → Q .non) ∧ (isPolyB d = false → erN mg "BadPoly" er)
def need2 (mg : Str → Option Value) (er : PEr) (d e : D) (Z : Prop) : Prop := okP d ∧ (isPolyB d = false → erN mg "BadOne" er) ∧ (isPolyB d = true → okP e ∧ (isPolyB e = false → erN mg "BadOther" er) ∧ (isPolyB e = true → Z))
def sp_need_two (mg : Str → Option Value) : PSpec := fun da ds Q er => ∃ d e, ds = [d, e] ∧ need2 mg er d e (Q .non)
def sp_is_poly (mg : Str → Option Value) : PSpec := fun da ds Q er => ∃ d, ds = [d] ∧ okP d ∧ Q (.bl (isPolyB d))
def sp_poly_at (mg : Str → Option Value) : PSpec := fun da ds Q er => ∃ d v, ds = [d, v] ∧ okP d ∧ (isPolyB d = false → erN mg "BadPoly" er) ∧ (isPolyB d = true → dtD v = true ∧ (isW v = false → erN mg "BadValue" er) ∧
  (isW v = true → ∃ l i, d = tI l ∧ v = .int i ∧ l.length ≤ 400 ∧ Bd l (2 ^ 1000) ∧ i.natAbs < 2 ^ 1000 ∧ Q (.int (evalL l i))))
def sp_poly_added (mg : Str → Option Value) : PSpec := fun da ds Q er => ∃ d e, ds = [d, e] ∧ need2 mg er d e (∃ a b, d = tI a ∧ e = tI b ∧ a.length ≤ 1000 ∧ b.length ≤ 1000 ∧ Q (tI (trim (addL a b))))
def sp_poly_times (mg : Str → Option Value) : PSpec := fun da ds Q er => ∃ d e, ds = [d, e] ∧ need2 mg er d e (∃ a b, d = tI a ∧ e = tI b ∧ a.length ≤ 400 ∧ b.length ≤ 400 ∧ Bd a (2 ^ 10000) ∧ Bd b (2 ^ 10000) ∧ Q (tI (trim (mulL a b))))
def sp_poly_power (mg : Str → Option Value) : PSpec := fun da ds Q er => ∃ d v, ds = [d, v] ∧ okP d ∧ (isPolyB d = false → erN mg "BadPoly" er) ∧ (isPolyB d = true → dtD v = true ∧ (inB v 0 12 = false → erN mg "BadMany" er) ∧
  (inB v 0 12 = true → ∃ a k, d = tI a ∧ v = .int k ∧ a.length ≤ 12 ∧ Bd a (2 ^ 100) ∧ 0 ≤ k ∧ k ≤ 12 ∧ Q (tI (powL a k.toNat))))
def sp_poly_parting (mg : Str → Option Value) : PSpec := fun da ds Q er => ∃ d e, ds = [d, e] ∧ need2 mg er d e (∃ a b, d = tI a ∧ e = tI b ∧ trim a = a ∧ trim b = b ∧ a.length ≤ 12 ∧ b.length ≤ 12 ∧ Bd a (2 ^ 1000) ∧ Bd b (2 ^ 1000) ∧ Q (fstD a b))
def sp_law_pick (mg : Str → Option Value) : PSpec := fun da ds Q er => ∃ a l, da.a = some a ∧ ds = [.ref a, .lst l] ∧ l ≠ [] ∧ l.length ≤ 1000 ∧ ∀ x ∈ l, Q x
def sp_law_kinds (mg : Str → Option Value) : PSpec := fun da ds Q er => ∃ d, ds = [d] ∧ eqOk 50 d = true ∧ szD d ≤ 100000 ∧ Q (kindsD d)
def sp_law_says (mg : Str → Option Value) : PSpec := fun da ds Q er => ∃ d, ds = [d, d] ∧ eqOk 50 d = true ∧ szD d ≤ 100000 ∧ Q (.bl true)
def sp_law_is_number (mg : Str → Option Value) : PSpec := fun da ds Q er => ∃ d, ds = [d] ∧ dtD d = true ∧ Q (.bl (isW d))
def oddL : List D := [.non, .bl true, .int (-1), .str "2", .tup [], .lst [], .dic [] [], .tup [.int 0], .tup [.int 1, .int 2], .tup [.bl true], .lst [.int 3], .tup [.tup [.int 1]], .tup [.str "one"], .tup [.tup [.int 1], .tup [.int 1]], .int 7, .str "x", .tup [.tup [.tup [.int 1]], .tup [.tup [.int 1]]]]
def sp_law_odd (mg : Str → Option Value) : PSpec := fun da ds Q er => ∃ a, da.a = some a ∧ ds = [.ref a] ∧ ∀ x ∈ oddL, Q x
def numL (lo hi : Int) : List D := [.non, .int (lo - 1), .int (hi + 1), .str "1", .bl true, .tup [.int lo], .lst []]
def sp_law_number (mg : Str → Option Value) : PSpec := fun da ds Q er => ∃ a lo hi, da.a = some a ∧ ds = [.ref a, .int lo, .int hi] ∧ ∀ x ∈ numL lo hi, Q x
def sp_law_trim (mg : Str → Option Value) : PSpec := fun da ds Q er => ∃ l, ds = [lI l] ∧ l.length ≤ 1000 ∧ Q (tI (trim l))
def sp_law_plus (mg : Str → Option Value) : PSpec := fun da ds Q er => ∃ a b, ds = [tI a, tI b] ∧ a.length ≤ 1000 ∧ b.length ≤ 1000 ∧ Q (tI (trim (addL a b)))
def sp_law_product (mg : Str → Option Value) : PSpec := fun da ds Q er => ∃ a b, ds = [tI a, tI b] ∧ a.length ≤ 400 ∧ b.length ≤ 400 ∧ Bd a (2 ^ 10000) ∧ Bd b (2 ^ 10000) ∧ Q (tI (trim (mulL a b)))
def sp_law_at (mg : Str → Option Value) : PSpec := fun da ds Q er => ∃ a v, ds = [tI a, .int v] ∧ a.length ≤ 400 ∧ Bd a (2 ^ 1000) ∧ v.natAbs < 2 ^ 1000 ∧ Q (.int (evalL a v))
def sp_law_poly (mg : Str → Option Value) : PSpec := fun da ds Q er => ∃ a, da.a = some a ∧ ds = [.ref a, .int 8] ∧ ∀ l, trim l = l → l.length ≤ 8 → Bd l (10 ^ 20) → Q (tI l)
def sp_law_is_poly (mg : Str → Option Value) : PSpec := fun da ds Q er => ∃ d, ds = [d] ∧ okP d ∧ Q (.bl (isPolyB d))
def sp_law_right (mg : Str → Option Value) : PSpec := fun da ds Q er => ∃ a, da.a = some a ∧ ds = [.ref a] ∧ Q (.bl true)
/-- is_whole(thing); 0:thing -/
def p_is_whole (mg : Str → Option Value) (da : GE) : PTS :=
  (pRet (pAndV (pBin oIsi (pVar 0) (pC (.ty "int"))) (pNotV (pBin oIsi (pVar 0) (pC (.ty "bool"))))))
/-- is_within(thing, low, high); 0:thing 1:low 2:high -/
def p_is_within (mg : Str → Option Value) (da : GE) : PTS :=
  (pRet (pAndV (pCall da (sp_is_whole mg) (pCons (pVar 0) pNil)) (pChain oLe oLe (pVar 1) (pVar 0) (pVar 2))))
/-- split(number); 0:number 1:found 2:left 3:late 4:often -/
def p_split (mg : Str → Option Value) (da : GE) : PTS :=
  (pSeq (pPar3' 1 2 3 (pLst pNil) (pVar 0) (pC (.int 2)))
  (pSeq (pWhile (pTest (pBin oLe (pBin oMul (pVar 3) (pVar 3)) (pVar 2))) (pSeq (pSet 4 (pC (.int 0)))
  (pSeq (pWhile (pTest (pBin oEq (pBin oMod (pVar 2) (pVar 3)) (pC (.int 0)))) (pPar2 2 4 (pBin oDiv (pVar 2) (pVar 3)) (pBin oAdd (pVar 4) (pC (.int 1)))))
  (pSeq (pIfS (pTest (pBin oGt (pVar 4) (pC (.int 0)))) (pDrop (pAppend 1 (pTup (pCons (pVar 3) (pCons (pVar 4) pNil))))) pNext)
  (pSet 3 (pBin oAdd (pVar 3) (pC (.int 1))))))))
  (pSeq (pIfS (pTest (pBin oGt (pVar 2) (pC (.int 1)))) (pDrop (pAppend 1 (pTup (pCons (pVar 2) (pCons (pC (.int 1)) pNil))))) pNext)
  (pRet (pVar 1)))))
/-- is_prime(number); 0:number -/
def p_is_prime (mg : Str → Option Value) (da : GE) : PTS :=
  (pRet (pAndV (pBin oGt (pVar 0) (pC (.int 1))) (pBin oEq (pCall da (sp_split mg) (pCons (pVar 0) pNil)) (pLst (pCons (pTup (pCons (pVar 0) (pCons (pC (.int 1)) pNil))) pNil)))))
/-- next_prime(number); 0:number 1:found -/
def p_next_prime (mg : Str → Option Value) (da : GE) : PTS :=
  (pSeq (pSet 1 (pBin oAdd (pVar 0) (pC (.int 1))))
  (pSeq (pWhile (pNot (pTruth (pCall da (sp_is_prime mg) (pCons (pVar 1) pNil)))) (pSet 1 (pBin oAdd (pVar 1) (pC (.int 1)))))
  (pRet (pVar 1))))
/-- is_poly_by(thing); 0:thing 1:item -/
def p_is_poly_by (mg : Str → Option Value) (da : GE) : PTS :=
  (pSeq (pIfS (pOr (pNot (pTruth (pBin oIsi (pVar 0) (pC (.ty "tuple"))))) (pOr (pTest (pBin oGt (pUn oLen (pVar 0)) (pC (.int 200)))) (pNot (pTruth (pUn oAll (pLc (pItS (pVar 0)) (gN 1) pYes (pCall da (sp_is_whole mg) (pCons (pVar 1) pNil)) [1])))))) (pRet (pC (.bl false))) pNext)
  (pRet (pOrV (pBin oEq (pVar 0) (pTup pNil)) (pBin oNe (pBin oIx (pVar 0) (pUn oNeg (pC (.int 1)))) (pC (.int 0))))))
/-- trimmed(line); 0:line 1:size -/
def p_trimmed (mg : Str → Option Value) (da : GE) : PTS :=
  (pSeq (pSet 1 (pUn oLen (pVar 0)))
  (pSeq (pWhile (pAnd (pTest (pBin oGt (pVar 1) (pC (.int 0)))) (pTest (pBin oEq (pBin oIx (pVar 0) (pBin oSub (pVar 1) (pC (.int 1)))) (pC (.int 0))))) (pSet 1 (pBin oSub (pVar 1) (pC (.int 1)))))
  (pRet (pUn oTuple (pSl (pVar 0) pNoPart (pPart (pVar 1)))))))
/-- added_by(one, other); 0:one 1:other 2:long 3:short 4:item 5:at -/
def p_added_by (mg : Str → Option Value) (da : GE) : PTS :=
  (pSeq (pAsgT (pIf (pTest (pBin oGe (pUn oLen (pVar 0)) (pUn oLen (pVar 1)))) (pTup (pCons (pVar 0) (pCons (pVar 1) pNil))) (pTup (pCons (pVar 1) (pCons (pVar 0) pNil)))) (gT 2 (gsCons (gN 2) (gsCons (gN 3) gsNil))))
  (pRet (pCall da (sp_trimmed mg) (pCons (pLc (pEnum (pCons (pVar 2) pNil)) (gT 2 (gsCons (gN 5) (gsCons (gN 4) gsNil))) pYes (pBin oAdd (pVar 4) (pIf (pTest (pBin oLt (pVar 5) (pUn oLen (pVar 3)))) (pBin oIx (pVar 3) (pVar 5)) (pC (.int 0)))) [5, 4]) pNil))))
/-- times_by(one, other); 0:one 1:other 2:found 3:at 4:item 5:late 6:more -/
def p_times_by (mg : Str → Option Value) (da : GE) : PTS :=
  (pSeq (pSet 2 (pBin oMul (pLst (pCons (pC (.int 0)) pNil)) (pBin oMax2 (pC (.int 0)) (pBin oSub (pBin oAdd (pUn oLen (pVar 0)) (pUn oLen (pVar 1))) (pC (.int 1))))))
  (pSeq (pFor (pEnum (pCons (pVar 0) pNil)) (gT 2 (gsCons (gN 3) (gsCons (gN 4) gsNil))) (pIfS (pTest (pBin oNe (pVar 4) (pC (.int 0)))) (pFor (pEnum (pCons (pVar 1) pNil)) (gT 2 (gsCons (gN 5) (gsCons (gN 6) gsNil))) (pSetIx 2 (pBin oAdd (pBin oIx (pVar 2) (pBin oAdd (pVar 3) (pVar 5))) (pBin oMul (pVar 4) (pVar 6))) (pBin oAdd (pVar 3) (pVar 5)))) pNext))
  (pRet (pCall da (sp_trimmed mg) (pCons (pVar 2) pNil)))))
/-- power_by(poly, many); 0:poly 1:many 2:found 3:lap -/
def p_power_by (mg : Str → Option Value) (da : GE) : PTS :=
  (pSeq (pSet 2 (pTup (pCons (pC (.int 1)) pNil)))
  (pSeq (pFor (pRng1 (pCons (pVar 1) pNil)) (gN 3) (pSet 2 (pCall da (sp_times_by mg) (pCons (pVar 2) (pCons (pVar 0) pNil)))))
  (pRet (pVar 2))))
/-- at_by(poly, value); 0:poly 1:value 2:found 3:item -/
def p_at_by (mg : Str → Option Value) (da : GE) : PTS :=
  (pSeq (pSet 2 (pC (.int 0)))
  (pSeq (pFor (pItS (pUn oRevT (pVar 0))) (gN 3) (pSet 2 (pBin oAdd (pBin oMul (pVar 2) (pVar 1)) (pVar 3))))
  (pRet (pVar 2))))
/-- unlike_prime(one, other); 0:one 1:other 2:prime -/
def p_unlike_prime (mg : Str → Option Value) (da : GE) : PTS :=
  (pSeq (pIfS (pTest (pBin oEq (pVar 0) (pVar 1))) (pRet (pC .non)) pNext)
  (pSeq (pSet 2 (pC (.int 2)))
  (pSeq (pWhile (pTest (pBin oEq (pCall da (sp_at_by mg) (pCons (pVar 0) (pCons (pVar 2) pNil))) (pCall da (sp_at_by mg) (pCons (pVar 1) (pCons (pVar 2) pNil))))) (pSet 2 (pCall da (sp_next_prime mg) (pCons (pVar 2) pNil))))
  (pRet (pVar 2)))))
/-- need_poly(poly); 0:poly -/
def p_need_poly (mg : Str → Option Value) (da : GE) : PTS :=
  (pIfS (pNot (pTruth (pCall da (sp_is_poly_by mg) (pCons (pVar 0) pNil)))) (pRaiseN mg "BadPoly") pNext)
/-- need_two(one, other); 0:one 1:other -/
def p_need_two (mg : Str → Option Value) (da : GE) : PTS :=
  (pSeq (pIfS (pNot (pTruth (pCall da (sp_is_poly_by mg) (pCons (pVar 0) pNil)))) (pRaiseN mg "BadOne") pNext)
  (pIfS (pNot (pTruth (pCall da (sp_is_poly_by mg) (pCons (pVar 1) pNil)))) (pRaiseN mg "BadOther") pNext))
/-- is_poly(thing); 0:thing -/
def p_is_poly (mg : Str → Option Value) (da : GE) : PTS :=
  (pRet (pCall da (sp_is_poly_by mg) (pCons (pVar 0) pNil)))
/-- poly_at(poly, value); 0:poly 1:value -/
def p_poly_at (mg : Str → Option Value) (da : GE) : PTS :=
  (pSeq (pDrop (pCall da (sp_need_poly mg) (pCons (pVar 0) pNil)))
  (pSeq (pIfS (pNot (pTruth (pCall da (sp_is_whole mg) (pCons (pVar 1) pNil)))) (pRaiseN mg "BadValue") pNext)
  (pRet (pCall da (sp_at_by mg) (pCons (pVar 0) (pCons (pVar 1) pNil))))))
/-- poly_added(one, other); 0:one 1:other -/
def p_poly_added (mg : Str → Option Value) (da : GE) : PTS :=
  (pSeq (pDrop (pCall da (sp_need_two mg) (pCons (pVar 0) (pCons (pVar 1) pNil))))
  (pRet (pCall da (sp_added_by mg) (pCons (pVar 0) (pCons (pVar 1) pNil)))))
/-- poly_times(one, other); 0:one 1:other -/
def p_poly_times (mg : Str → Option Value) (da : GE) : PTS :=
  (pSeq (pDrop (pCall da (sp_need_two mg) (pCons (pVar 0) (pCons (pVar 1) pNil))))
  (pRet (pCall da (sp_times_by mg) (pCons (pVar 0) (pCons (pVar 1) pNil)))))
/-- poly_power(poly, many); 0:poly 1:many -/
def p_poly_power (mg : Str → Option Value) (da : GE) : PTS :=
  (pSeq (pDrop (pCall da (sp_need_poly mg) (pCons (pVar 0) pNil)))
  (pSeq (pIfS (pNot (pTruth (pCall da (sp_is_within mg) (pCons (pVar 1) (pCons (pC (.int 0)) (pCons (pC (.int 12)) pNil)))))) (pRaiseN mg "BadMany") pNext)
  (pRet (pCall da (sp_power_by mg) (pCons (pVar 0) (pCons (pVar 1) pNil))))))
/-- poly_parting(one, other); 0:one 1:other -/
def p_poly_parting (mg : Str → Option Value) (da : GE) : PTS :=
  (pSeq (pDrop (pCall da (sp_need_two mg) (pCons (pVar 0) (pCons (pVar 1) pNil))))
  (pRet (pCall da (sp_unlike_prime mg) (pCons (pVar 0) (pCons (pVar 1) pNil)))))
/-- _law_pick(draw, items); 0:draw 1:items -/
def p_law_pick (mg : Str → Option Value) (da : GE) : PTS :=
  (pRet (pBin oIx (pVar 1) (pCall da (sp_law_take mg) (pCons (pVar 0) (pCons (pUn oLen (pVar 1)) pNil)))))
/-- _law_kinds(thing); 0:thing 1:found 2:line 3:one 4:key -/
def p_law_kinds (mg : Str → Option Value) (da : GE) : PTS :=
  (pSeq (pPar2 1 2 (pLst pNil) (pLst (pCons (pVar 0) pNil)))
  (pSeq (pWhile (pTest (pBin oNe (pVar 2) (pLst pNil))) (pSeq (pSet 3 (pPop 2))
  (pIfS (pOr (pTruth (pBin oIsi (pVar 3) (pC (.ty "bool")))) (pTest (pBin oIsN (pVar 3) (pC .non)))) (pDrop (pAppend 1 (pUn oRepr (pVar 3)))) (pIfS (pTruth (pBin oIsi (pVar 3) (pC (.ty "int")))) (pDrop (pAppend 1 (pC (.str "number")))) (pIfS (pTruth (pBin oIsi (pVar 3) (pC (.ty "str")))) (pDrop (pAppend 1 (pC (.str "string")))) (pIfS (pOr (pTruth (pBin oIsi (pVar 3) (pC (.ty "list")))) (pTruth (pBin oIsi (pVar 3) (pC (.ty "tuple"))))) (pSeq (pDrop (pAppend 1 (pIf (pTruth (pBin oIsi (pVar 3) (pC (.ty "list")))) (pC (.str "list")) (pC (.str "tuple")))))
  (pSet 2 (pBin oAdd (pVar 2) (pUn oList (pVar 3))))) (pIfS (pTruth (pBin oIsi (pVar 3) (pC (.ty "dict")))) pNever (pDrop (pAppend 1 (pC (.str "other")))))))))))
  (pRet (pVar 1))))
/-- _law_says(told, due); 0:told 1:due -/
def p_law_says (mg : Str → Option Value) (da : GE) : PTS :=
  (pRet (pAndV (pBin oEq (pCall da (sp_law_kinds mg) (pCons (pVar 0) pNil)) (pCall da (sp_law_kinds mg) (pCons (pVar 1) pNil))) (pBin oEq (pVar 0) (pVar 1))))
/-- _law_is_number(thing); 0:thing -/
def p_law_is_number (mg : Str → Option Value) (da : GE) : PTS :=
  (pRet (pAndV (pBin oIsi (pVar 0) (pC (.ty "int"))) (pNotV (pBin oIsi (pVar 0) (pC (.ty "bool"))))))
/-- _law_odd(draw); 0:draw -/
def p_law_odd (mg : Str → Option Value) (da : GE) : PTS :=
  (pRet (pCall da (sp_law_pick mg) (pCons (pVar 0) (pCons (pLst (pCons (pC .non) (pCons (pC (.bl true)) (pCons (pUn oNeg (pC (.int 1))) (pCons (pC (.str "2")) (pCons (pTup pNil) (pCons (pLst pNil) (pCons pDict0 (pCons (pTup (pCons (pC (.int 0)) pNil)) (pCons (pTup (pCons (pC (.int 1)) (pCons (pC (.int 2)) pNil))) (pCons (pTup (pCons (pC (.bl true)) pNil)) (pCons (pLst (pCons (pC (.int 3)) pNil)) (pCons (pTup (pCons (pTup (pCons (pC (.int 1)) pNil)) pNil)) (pCons (pTup (pCons (pC (.str "one")) pNil)) (pCons (pTup (pCons (pTup (pCons (pC (.int 1)) pNil)) (pCons (pTup (pCons (pC (.int 1)) pNil)) pNil))) (pCons (pC (.int 7)) (pCons (pC (.str "x")) (pCons (pTup (pCons (pTup (pCons (pTup (pCons (pC (.int 1)) pNil)) pNil)) (pCons (pTup (pCons (pTup (pCons (pC (.int 1)) pNil)) pNil)) pNil))) pNil)))))))))))))))))) pNil))))
/-- _law_number(draw, low, high); 0:draw 1:low 2:high -/
def p_law_number (mg : Str → Option Value) (da : GE) : PTS :=
  (pRet (pCall da (sp_law_pick mg) (pCons (pVar 0) (pCons (pLst (pCons (pC .non) (pCons (pBin oSub (pVar 1) (pC (.int 1))) (pCons (pBin oAdd (pVar 2) (pC (.int 1))) (pCons (pC (.str "1")) (pCons (pC (.bl true)) (pCons (pTup (pCons (pVar 1) pNil)) (pCons (pLst pNil) pNil)))))))) pNil))))
/-- _law_trim(line); 0:line 1:found 2:lap -/
def p_law_trim (mg : Str → Option Value) (da : GE) : PTS :=
  (pSeq (pSet 1 (pUn oList (pVar 0)))
  (pSeq (pFor (pRng1 (pCons (pUn oLen (pVar 0)) pNil)) (gN 2) (pSeq (pIfS (pOr (pTest (pBin oEq (pVar 1) (pLst pNil))) (pTest (pBin oNe (pBin oIx (pVar 1) (pUn oNeg (pC (.int 1)))) (pC (.int 0))))) pBreak pNext)
  (pSet 1 (pSl (pVar 1) pNoPart (pPart (pUn oNeg (pC (.int 1))))))))
  (pRet (pUn oTuple (pVar 1)))))
/-- _law_plus(one, other); 0:one 1:other 2:size 3:at -/
def p_law_plus (mg : Str → Option Value) (da : GE) : PTS :=
  (pSeq (pSet 2 (pBin oMax2 (pUn oLen (pVar 0)) (pUn oLen (pVar 1))))
  (pRet (pCall da (sp_law_trim mg) (pCons (pLc (pRng1 (pCons (pVar 2) pNil)) (gN 3) pYes (pBin oAdd (pIf (pTest (pBin oLt (pVar 3) (pUn oLen (pVar 0)))) (pBin oIx (pVar 0) (pVar 3)) (pC (.int 0))) (pIf (pTest (pBin oLt (pVar 3) (pUn oLen (pVar 1)))) (pBin oIx (pVar 1) (pVar 3)) (pC (.int 0)))) [3]) pNil))))
/-- _law_product(one, other); 0:one 1:other 2:found 3:some 4:at 5:item 6:late 7:more -/
def p_law_product (mg : Str → Option Value) (da : GE) : PTS :=
  (pSeq (pPar2 2 3 (pBin oMul (pLst (pCons (pC (.int 0)) pNil)) (pBin oAdd (pUn oLen (pVar 0)) (pUn oLen (pVar 1)))) (pLc (pEnum (pCons (pVar 1) pNil)) (gT 2 (gsCons (gN 6) (gsCons (gN 7) gsNil))) (pTest (pBin oNe (pVar 7) (pC (.int 0)))) (pVar 6) [6, 7]))
  (pSeq (pFor (pEnum (pCons (pVar 0) pNil)) (gT 2 (gsCons (gN 4) (gsCons (gN 5) gsNil))) (pIfS (pTest (pBin oNe (pVar 5) (pC (.int 0)))) (pFor (pItS (pVar 3)) (gN 6) (pSetIx 2 (pBin oAdd (pBin oIx (pVar 2) (pBin oAdd (pVar 4) (pVar 6))) (pBin oMul (pVar 5) (pBin oIx (pVar 1) (pVar 6)))) (pBin oAdd (pVar 4) (pVar 6)))) pNext))
  (pRet (pCall da (sp_law_trim mg) (pCons (pVar 2) pNil)))))
/-- _law_at(poly, value); 0:poly 1:value 2:found 3:item -/
def p_law_at (mg : Str → Option Value) (da : GE) : PTS :=
  (pSeq (pSet 2 (pC (.int 0)))
  (pSeq (pFor (pItS (pUn oRevT (pVar 0))) (gN 3) (pSet 2 (pBin oAdd (pBin oMul (pVar 2) (pVar 1)) (pVar 3))))
  (pRet (pVar 2))))
/-- _law_poly(draw, most); 0:draw 1:most 2:great 3:lap -/
def p_law_poly (mg : Str → Option Value) (da : GE) : PTS :=
  (pSeq (pSet 2 (pCall da (sp_law_pick mg) (pCons (pVar 0) (pCons (pLst (pCons (pC (.int 2)) (pCons (pC (.int 5)) (pCons (pBin oPow (pC (.int 10)) (pC (.int 20))) pNil)))) pNil))))
  (pRet (pCall da (sp_law_trim mg) (pCons (pLc (pRng1 (pCons (pCall da (sp_law_take mg) (pCons (pVar 0) (pCons (pBin oAdd (pVar 1) (pC (.int 1))) pNil))) pNil)) (gN 3) pYes (pBin oSub (pCall da (sp_law_take mg) (pCons (pVar 0) (pCons (pBin oAdd (pBin oMul (pC (.int 2)) (pVar 2)) (pC (.int 1))) pNil))) (pVar 2)) [3]) pNil))))
/-- _law_is_poly(thing); 0:thing 1:item -/
def p_law_is_poly (mg : Str → Option Value) (da : GE) : PTS :=
  (pSeq (pIfS (pOr (pNot (pTruth (pBin oIsi (pVar 0) (pC (.ty "tuple"))))) (pOr (pTest (pBin oGt (pUn oLen (pVar 0)) (pC (.int 200)))) (pTest (pBin oNe (pLc (pItS (pVar 0)) (gN 1) (pNot (pTruth (pCall da (sp_law_is_number mg) (pCons (pVar 1) pNil)))) (pVar 1) [1]) (pLst pNil))))) (pRet (pC (.bl false))) pNext)
  (pRet (pOrV (pBin oEq (pVar 0) (pTup pNil)) (pBin oNe (pBin oIx (pVar 0) (pUn oNeg (pC (.int 1)))) (pC (.int 0))))))
/-- _law_right(draw); 0:draw 1:one 2:other 3:value 4:many 5:power 6:lap 7:told 8:due 9:late 10:primes 11:first 12:thing 13:right 14:prime -/
def p_law_right (mg : Str → Option Value) (da : GE) : PTS :=
  (pSeq (pAsgT (pTup (pCons (pCall da (sp_law_poly mg) (pCons (pVar 0) (pCons (pC (.int 8)) pNil))) (pCons (pCall da (sp_law_poly mg) (pCons (pVar 0) (pCons (pC (.int 8)) pNil))) pNil))) (gT 2 (gsCons (gN 1) (gsCons (gN 2) gsNil))))
  (pSeq (pPar2 3 4 (pCall da (sp_law_pick mg) (pCons (pVar 0) (pCons (pLst (pCons (pC (.int 0)) (pCons (pC (.int 1)) (pCons (pUn oNeg (pC (.int 1))) (pCons (pC (.int 2)) (pCons (pBin oSub (pCall da (sp_law_take mg) (pCons (pVar 0) (pCons (pBin oPow (pC (.int 10)) (pC (.int 12))) pNil))) (pBin oPow (pC (.int 10)) (pC (.int 6)))) pNil)))))) pNil))) (pCall da (sp_law_take mg) (pCons (pVar 0) (pCons (pC (.int 13)) pNil))))
  (pSeq (pSet 5 (pTup (pCons (pC (.int 1)) pNil)))
  (pSeq (pFor (pRng1 (pCons (pVar 4) pNil)) (gN 6) (pSet 5 (pCall da (sp_law_product mg) (pCons (pVar 5) (pCons (pVar 1) pNil)))))
  (pSeq (pSet 7 (pLst (pCons (pCall da (sp_poly_at mg) (pCons (pVar 1) (pCons (pVar 3) pNil))) (pCons (pCallK da (sp_poly_at mg) [1, 0] 2 (pCons (pVar 3) (pCons (pVar 1) pNil))) (pCons (pCall da (sp_poly_added mg) (pCons (pVar 1) (pCons (pVar 2) pNil))) (pCons (pCallK da (sp_poly_added mg) [1, 0] 2 (pCons (pVar 2) (pCons (pVar 1) pNil))) (pCons (pCall da (sp_poly_times mg) (pCons (pVar 1) (pCons (pVar 2) pNil))) (pCons (pCallK da (sp_poly_times mg) [1, 0] 2 (pCons (pVar 2) (pCons (pVar 1) pNil))) pNil))))))))
  (pSeq (pSet 8 (pBin oAdd (pBin oAdd (pBin oMul (pLst (pCons (pCall da (sp_law_at mg) (pCons (pVar 1) (pCons (pVar 3) pNil))) pNil)) (pC (.int 2))) (pBin oMul (pLst (pCons (pCall da (sp_law_plus mg) (pCons (pVar 1) (pCons (pVar 2) pNil))) pNil)) (pC (.int 2)))) (pBin oMul (pLst (pCons (pCall da (sp_law_product mg) (pCons (pVar 1) (pCons (pVar 2) pNil))) pNil)) (pC (.int 2)))))
  (pSeq (pIfS (pOr (pNot (pTruth (pCall da (sp_law_says mg) (pCons (pVar 7) (pCons (pVar 8) pNil))))) (pNot (pTruth (pCall da (sp_law_says mg) (pCons (pLst (pCons (pCall da (sp_poly_power mg) (pCons (pVar 1) (pCons (pVar 4) pNil))) (pCons (pCallK da (sp_poly_power mg) [1, 0] 2 (pCons (pVar 4) (pCons (pVar 1) pNil))) pNil))) (pCons (pLst (pCons (pVar 5) (pCons (pVar 5) pNil))) pNil)))))) (pRet (pC (.bl false))) pNext)
  (pSeq (pSet 9 (pCall da (sp_law_pick mg) (pCons (pVar 0) (pCons (pLst (pCons (pVar 1) (pCons (pVar 2) (pCons (pCall da (sp_law_plus mg) (pCons (pVar 1) (pCons (pCall da (sp_law_product mg) (pCons (pTup (pCons (pUn oNeg (pC (.int 2))) (pCons (pC (.int 1)) pNil))) (pCons (pCall da (sp_law_product mg) (pCons (pTup (pCons (pUn oNeg (pC (.int 3))) (pCons (pC (.int 1)) pNil))) (pCons (pVar 2) pNil))) pNil))) pNil))) (pCons (pCall da (sp_law_plus mg) (pCons (pVar 1) (pCons (pTup (pCons (pC (.int 0)) (pCons (pUn oNeg (pC (.int 5))) (pCons (pC (.int 1)) pNil)))) pNil))) pNil))))) pNil))))
  (pSeq (pSet 10 (pLst (pCons (pC (.int 2)) (pCons (pC (.int 3)) (pCons (pC (.int 5)) (pCons (pC (.int 7)) (pCons (pC (.int 11)) (pCons (pC (.int 13)) (pCons (pC (.int 17)) (pCons (pC (.int 19)) (pCons (pC (.int 23)) (pCons (pC (.int 29)) (pCons (pC (.int 31)) (pCons (pC (.int 37)) pNil))))))))))))))
  (pSeq (pSet 11 (pBin oIx (pBin oAdd (pLc (pItS (pVar 10)) (gN 14) (pTest (pBin oNe (pCall da (sp_law_at mg) (pCons (pVar 1) (pCons (pVar 14) pNil))) (pCall da (sp_law_at mg) (pCons (pVar 9) (pCons (pVar 14) pNil))))) (pVar 14) [14]) (pLst (pCons (pC .non) pNil))) (pC (.int 0))))
  (pSeq (pIfS (pNot (pTruth (pCall da (sp_law_says mg) (pCons (pLst (pCons (pCall da (sp_poly_parting mg) (pCons (pVar 1) (pCons (pVar 9) pNil))) (pCons (pCallK da (sp_poly_parting mg) [1, 0] 2 (pCons (pVar 9) (pCons (pVar 1) pNil))) pNil))) (pCons (pLst (pCons (pVar 11) (pCons (pVar 11) pNil))) pNil))))) (pRet (pC (.bl false))) pNext)
  (pSeq (pFor (pItS (pLst (pCons (pVar 1) (pCons (pUn oList (pVar 1)) (pCons (pBin oAdd (pVar 1) (pTup (pCons (pC (.int 0)) pNil))) (pCons (pBin oAdd (pVar 1) (pTup (pCons (pC (.bl true)) pNil))) (pCons (pBin oAdd (pVar 1) (pTup (pCons (pC .non) pNil))) (pCons (pBin oMul (pTup (pCons (pC (.int 1)) pNil)) (pC (.int 200))) (pCons (pBin oMul (pTup (pCons (pC (.int 1)) pNil)) (pC (.int 201))) (pCons (pTup (pCons (pC (.int 0)) pNil)) (pCons (pCall da (sp_law_odd mg) (pCons (pVar 0) pNil)) pNil))))))))))) (gN 12) (pSeq (pSet 13 (pCall da (sp_law_is_poly mg) (pCons (pVar 12) pNil)))
  (pIfS (pNot (pTruth (pCall da (sp_law_says mg) (pCons (pLst (pCons (pCall da (sp_is_poly mg) (pCons (pVar 12) pNil)) (pCons (pCallK da (sp_is_poly mg) [0] 1 (pCons (pVar 12) pNil)) pNil))) (pCons (pLst (pCons (pVar 13) (pCons (pVar 13) pNil))) pNil))))) (pRet (pC (.bl false))) pNext)))
  (pRet (pC (.bl true)))))))))))))))
/-- law(script), behind its first statement; 0:script 1:draw 2:lap 3:wrong 4:errors 5:told 6:work -/
def p_law (mg : Str → Option Value) (PL : Addr) (da : GE) : PTS :=
  (pSeq (pFor (pRng1 (pCons (pBin oAdd (pC (.int 6)) (pBin oMin2 (pUn oLen (pVar 0)) (pC (.int 12)))) pNil)) (gN 2) (pIfS (pNot (pTruth (pCall da (sp_law_right mg) (pCons (pVar 1) pNil)))) (pRet (pC (.bl false))) pNext))
  (pSeq (pSet 3 (pCall da (sp_law_pick mg) (pCons (pVar 1) (pCons (pLst (pCons (pC .non) (pCons (pTup (pCons (pC (.int 0)) pNil)) (pCons (pLst (pCons (pC (.int 1)) pNil)) (pCons (pTup (pCons (pC (.int 1)) (pCons (pC (.int 0)) pNil))) (pCons (pTup (pCons (pC (.bl true)) pNil)) (pCons (pBin oMul (pTup (pCons (pC (.int 1)) pNil)) (pC (.int 201))) (pCons (pC (.str "1")) pNil)))))))) pNil))))
  (pSeq (pSet 4 (pLc (pItS (pLst (pCons (pGlob mg "poly_at") (pCons (pGlob mg "poly_power") pNil)))) (gN 6) pYes (pLam da PL "law.<locals>.<lambda>" mg errN (pCallV da mg 6 [("poly_at", 2, sp_poly_at mg), ("poly_power", 2, sp_poly_power mg)] (pCons (pVar 3) (pCons (pC .non) pNil)))) [6]))
  (pSeq (pDrop (pAppend 4 (pLam da PL "law.<locals>.<lambda>" mg errN (pCall da (sp_poly_at mg) (pCons (pTup (pCons (pC (.int 1)) pNil)) (pCons (pCall da (sp_law_pick mg) (pCons (pVar 1) (pCons (pLst (pCons (pC .non) (pCons (pC (.bl true)) (pCons (pC (.str "1")) pNil)))) pNil))) pNil))))))
  (pSeq (pDrop (pAppend 4 (pLam da PL "law.<locals>.<lambda>" mg errN (pCall da (sp_poly_added mg) (pCons (pVar 3) (pCons (pC .non) pNil))))))
  (pSeq (pDrop (pAppend 4 (pLam da PL "law.<locals>.<lambda>" mg errN (pCall da (sp_poly_times mg) (pCons (pTup (pCons (pC (.int 1)) pNil)) (pCons (pVar 3) pNil))))))
  (pSeq (pDrop (pAppend 4 (pLam da PL "law.<locals>.<lambda>" mg errN (pCall da (sp_poly_power mg) (pCons (pTup (pCons (pC (.int 1)) pNil)) (pCons (pCall da (sp_law_number mg) (pCons (pVar 1) (pCons (pC (.int 0)) (pCons (pC (.int 12)) pNil)))) pNil))))))
  (pSeq (pDrop (pAppend 4 (pLam da PL "law.<locals>.<lambda>" mg errN (pCall da (sp_poly_parting mg) (pCons (pVar 3) (pCons (pC .non) pNil))))))
  (pSeq (pSet 5 (pLst (pCons (pBin (oIsiE mg "BadPoly") (pBin oIx (pVar 4) (pC (.int 0))) (pGlob mg "BadPoly")) (pCons (pBin (oIsiE mg "BadPoly") (pBin oIx (pVar 4) (pC (.int 1))) (pGlob mg "BadPoly")) (pCons (pBin (oIsiE mg "BadValue") (pBin oIx (pVar 4) (pC (.int 2))) (pGlob mg "BadValue")) (pCons (pBin (oIsiE mg "BadOne") (pBin oIx (pVar 4) (pC (.int 3))) (pGlob mg "BadOne")) (pCons (pBin (oIsiE mg "BadOther") (pBin oIx (pVar 4) (pC (.int 4))) (pGlob mg "BadOther")) pNil)))))))
  (pSeq (pSet 5 (pBin oAdd (pVar 5) (pLst (pCons (pBin (oIsiE mg "BadMany") (pBin oIx (pVar 4) (pC (.int 5))) (pGlob mg "BadMany")) pNil))))
  (pSeq (pIfS (pTest (pBin oNe (pBin oAdd (pVar 5) (pLst (pCons (pBin (oIsiE mg "BadOne") (pBin oIx (pVar 4) (pC (.int 6))) (pGlob mg "BadOne")) pNil))) (pBin oMul (pLst (pCons (pC (.bl true)) pNil)) (pC (.int 7))))) (pRet (pC (.bl false))) pNext)
  (pSeq (pSet 5 (pLst (pCons (pCall da (sp_poly_times mg) (pCons (pTup (pCons (pC (.int 1)) (pCons (pC (.int 1)) pNil))) (pCons (pTup (pCons (pC (.int 1)) (pCons (pC (.int 1)) pNil))) pNil))) (pCons (pCall da (sp_poly_parting mg) (pCons (pTup (pCons (pC (.int 6)) (pCons (pUn oNeg (pC (.int 5))) (pCons (pC (.int 1)) pNil)))) (pCons (pTup pNil) pNil))) (pCons (pCall da (sp_poly_added mg) (pCons (pTup (pCons (pC (.int 1)) (pCons (pC (.int 2)) pNil))) (pCons (pTup (pCons (pC (.int 1)) (pCons (pUn oNeg (pC (.int 2))) pNil))) pNil))) (pCons (pCall da (sp_poly_at mg) (pCons (pTup pNil) (pCons (pC (.int 5)) pNil))) (pCons (pCall da (sp_poly_power mg) (pCons (pTup (pCons (pC (.int 0)) (pCons (pC (.int 1)) pNil))) (pCons (pC (.int 3)) pNil))) (pCons (pCall da (sp_poly_power mg) (pCons (pTup pNil) (pCons (pC (.int 0)) pNil))) (pCons (pCall da (sp_poly_parting mg) (pCons (pTup (pCons (pC (.int 1)) pNil)) (pCons (pTup (pCons (pC (.int 1)) pNil)) pNil))) (pCons (pCall da (sp_is_poly mg) (pCons (pTup pNil) pNil)) (pCons (pCall da (sp_is_poly mg) (pCons (pTup (pCons (pC (.int 0)) pNil)) pNil)) pNil)))))))))))
  (pRet (pCall da (sp_law_says mg) (pCons (pVar 5) (pCons (pLst (pCons (pTup (pCons (pC (.int 1)) (pCons (pC (.int 2)) (pCons (pC (.int 1)) pNil)))) (pCons (pC (.int 5)) (pCons (pTup (pCons (pC (.int 2)) pNil)) (pCons (pC (.int 0)) (pCons (pTup (pCons (pC (.int 0)) (pCons (pC (.int 0)) (pCons (pC (.int 0)) (pCons (pC (.int 1)) pNil))))) (pCons (pTup (pCons (pC (.int 1)) pNil)) (pCons (pC .non) (pCons (pC (.bl true)) (pCons (pC (.bl false)) pNil)))))))))) pNil))))))))))))))))
end DL

set_option maxHeartbeats 4000000
namespace DL
open PySem PySem.Spec PyProof.Rows L2 LamX
variable (mg : Str → Option Value)
theorem len_is_whole : ∀ da ds Q er, sp_is_whole mg da ds Q er → ds.length = 1 := fun _ _ _ _ ⟨_, e, _⟩ => by rw [e]; rfl
theorem hp_is_whole : ∀ da ds Q er, sp_is_whole mg da ds Q er → p_is_whole mg da { nx := fun _ => Q .non, rt := Q, er := er } (startP 1 ds) := by
  rintro da ds Q er ⟨d, rfl, hd, hQ⟩
  obtain ⟨b, h1, c, h2, e⟩ := isi_int hd
  refine ⟨trivial, .int, b, rfl, h1, b, rfl, ite_b (fun hb => ⟨trivial, .bool, c, rfl, h2, c, rfl, ?_⟩) fun hb => ?_⟩
  · subst hb; rw [← e] at hQ; exact hQ
  · subst hb; rw [← e] at hQ; exact hQ
theorem len_is_within : ∀ da ds Q er, sp_is_within mg da ds Q er → ds.length = 3 := fun _ _ _ _ ⟨_, _, _, e, _⟩ => by rw [e]; rfl
theorem hp_is_within : ∀ da ds Q er, sp_is_within mg da ds Q er → p_is_within mg da { nx := fun _ => Q .non, rt := Q, er := er } (startP 3 ds) := by
  rintro da ds Q er ⟨d, a, b, rfl, hd, hQ⟩
  refine ⟨d, rfl, hd, isW d, rfl, ite_b (fun hb => ?_) fun hb => ?_⟩
  · cases d <;> first | (simp [isW] at hb; done) | skip
    rename_i i
    refine ⟨trivial, trivial, decide (a ≤ i), rfl, ite_b (fun h => ⟨trivial, trivial, ?_⟩) fun h => ?_⟩
    · have : inB (.int i) a b = decide (i ≤ b) := by simp [inB, of_decide_eq_true h]
      rw [this] at hQ; exact hQ
    · have : inB (.int i) a b = false := by simp [inB, of_decide_eq_false h]
      rw [this] at hQ; exact hQ
  · have : inB d a b = false := by cases d <;> first | rfl | (simp [isW] at hb; done)
    rw [this] at hQ; exact hQ
/-! ### dividing out -/
theorem out_spec : ∀ (f : Nat) (l t o : Int), 1 ≤ l → 2 ≤ t → 0 ≤ o → l.toNat ≤ f → 1 ≤ (outL f l t o).1 ∧ (outL f l t o).1 ≤ l ∧ o ≤ (outL f l t o).2 ∧ ((outL f l t o).2 = o ∨ 2 * (outL f l t o).1 ≤ l)
  | 0, l, t, o, h1, _, _, hf => by omega
  | f + 1, l, t, o, h1, h2, h3, hf => by
    unfold outL
    split
    · rename_i hm
      have hd : l.fdiv t = l / t := Int.fdiv_eq_ediv_of_nonneg _ (by omega)
      have hmm : l % t = 0 := by rw [← Int.fmod_eq_emod_of_nonneg _ (by omega)]; exact hm
      have e := Int.emod_add_mul_ediv l t
      rw [hmm] at e
      have hq : 1 ≤ l / t := by
        by_cases z : 1 ≤ l / t
        · exact z
        · have : t * (l / t) ≤ 0 := Int.mul_nonpos_of_nonneg_of_nonpos (by omega) (by omega)
          omega
      have hlt : l / t < l := by
        have : 2 * (l / t) ≤ t * (l / t) := Int.mul_le_mul_of_nonneg_right h2 (by omega)
        omega
      rw [hd]
      obtain ⟨a1, a2, a3, _⟩ := out_spec f (l / t) t (o + 1) hq h2 (by omega) (by omega)
      have : 2 * (l / t) ≤ t * (l / t) := Int.mul_le_mul_of_nonneg_right h2 (by omega)
      exact ⟨a1, by omega, by omega, .inr (by omega)⟩
    · exact ⟨h1, by omega, by omega, .inl rfl⟩
theorem out_step {f : Nat} {l t o : Int} (h1 : 1 ≤ l) (h2 : 2 ≤ t) (hf : l.toNat ≤ f) (hm : l.fmod t = 0) : ∃ f', f' < f ∧ 1 ≤ l.fdiv t ∧ (l.fdiv t).toNat ≤ f' ∧ outL f l t o = outL f' (l.fdiv t) t (o + 1) := by
  cases f with
  | zero => omega
  | succ f =>
    have hd : l.fdiv t = l / t := Int.fdiv_eq_ediv_of_nonneg _ (by omega)
    have hmm : l % t = 0 := by rw [← Int.fmod_eq_emod_of_nonneg _ (by omega)]; exact hm
    have e := Int.emod_add_mul_ediv l t
    rw [hmm] at e
    have hq : 1 ≤ l / t := by
      by_cases z : 1 ≤ l / t
      · exact z
      · have : t * (l / t) ≤ 0 := Int.mul_nonpos_of_nonneg_of_nonpos (by omega) (by omega)
        omega
    have hlt : l / t < l := by
      have : 2 * (l / t) ≤ t * (l / t) := Int.mul_le_mul_of_nonneg_right h2 (by omega)
      omega
    refine ⟨f, by omega, by rw [hd]; exact hq, by rw [hd]; omega, ?_⟩
    rw [outL, if_pos hm]
theorem out_end {f : Nat} {l t o : Int} (hm : ¬ l.fmod t = 0) : outL f l t o = (l, o) := by
  cases f with
  | zero => rfl
  | succ f => rw [outL, if_neg hm]
theorem log2_60 {x : Nat} (h : x < 2 ^ 60) : x.log2 < 60 := log2_lt_of h (by decide)
theorem pairs_eq (n : Nat) (l : List (Int × Int)) : eqOk (n + 2) (.lst (pairsD l)) = true := by
  rw [eqOk]
  induction l with
  | nil => simp [pairsD, eqOks]
  | cons p r ih =>
    unfold pairsD at ih ⊢
    rw [List.map_cons, eqOks, ih, pairD, eqOk]
    cases n <;> simp [eqOks, eqOk]
theorem len_split : ∀ da ds Q er, sp_split mg da ds Q er → ds.length = 1 := fun _ _ _ _ ⟨_, e, _⟩ => by rw [e]; rfl
theorem spl_len : ∀ (f : Nat) (l t : Int), (splG f l t).length ≤ f
  | 0, _, _ => by simp [splG]
  | f + 1, l, t => by
    unfold splG
    split
    · rw [List.length_append]
      have := spl_len f (outL l.toNat l t 0).1 (t + 1)
      split <;> simp <;> omega
    · split <;> simp
theorem hp_split : ∀ da ds Q er, sp_split mg da ds Q er → p_split mg da { nx := fun _ => Q .non, rt := Q, er := er } (startP 5 ds) := by
  rintro da ds Q er ⟨n, rfl, h1, h2, hQ⟩
  refine ⟨sizeL (by decide), ?_⟩
  -- the outer loop
  refine ⟨fun m ps => ∃ (fl : List (Int × Int)) (l t : Int) (x : PV), ps = [.val (.int n), .own (.lst (pairsD fl)), .val (.int l), .val (.int t), x] ∧ 1 ≤ l ∧ l ≤ n ∧ (2 ≤ t ∧ t ≤ n + 1) ∧ (m : Int) = n + 3 - t ∧ 2 ^ fl.length * l.toNat ≤ n.toNat ∧ fl ++ splG m l t = splF n, ⟨(n + 1).toNat, [], n, 2, .no, rfl, h1, Int.le_refl n, ⟨by decide, by omega⟩, by omega, by simp, ?_⟩, ?_⟩
  · rw [show (n + 1).toNat = n.toNat + 1 by omega]; rfl
  rintro m ps ⟨fl, l, t, x, rfl, hl, hln, ⟨ht, htn⟩, hm, hfl, hs⟩
  have fl60 : fl.length < 60 := by
    have a1 : 2 ^ fl.length ≤ n.toNat := Nat.le_trans (Nat.le_mul_of_pos_right _ (by omega)) hfl
    have a2 : 2 ^ fl.length < 2 ^ 60 := by omega
    exact (Nat.pow_lt_pow_iff_right (by decide)).mp a2
  have lenP : (pairsD fl).length = fl.length := by unfold pairsD; simp
  have ht60 : t < 2 ^ 62 := by
    have : (m : Int) ≥ 0 := by omega
    have : (2 : Int) ^ 60 + 3 < 2 ^ 62 := by decide
    omega
  have tlog : t.natAbs.log2 < 62 := log2_lt_of (by omega) (by decide)
  refine ⟨trivial, ⟨by show _ + _ < _; omega, trivial, trivial, decide (t * t ≤ l), rfl, ?_⟩⟩
  have tl : t ≤ t * t := by
    have : t * 1 ≤ t * t := Int.mul_le_mul_of_nonneg_left (by omega) (by omega)
    omega
  refine ite_b (fun hb => ?_) fun hb => ?_
  · have hb := of_decide_eq_true hb
    obtain ⟨m', rfl⟩ : ∃ m', m = m' + 1 := ⟨m - 1, by omega⟩
    have hlt : l < 2 ^ 60 := by omega
    -- the inner loop
    obtain ⟨o1, o2, o3, o4⟩ := out_spec l.toNat l t 0 hl ht (by decide) (Nat.le_refl _)
    refine ⟨fun f ps => ∃ (l' o : Int), ps = [.val (.int n), .own (.lst (pairsD fl)), .val (.int l'), .val (.int t), .val (.int o)] ∧ 1 ≤ l' ∧ l' ≤ l ∧ 0 ≤ o ∧ l'.toNat ≤ f ∧ outL f l' t o = outL l.toNat l t 0, ⟨l.toNat, l, 0, rfl, hl, Int.le_refl l, Int.le_refl 0, Nat.le_refl _, rfl⟩, ?_⟩
    rintro f ps ⟨l', o, rfl, a1, a2, a3, a4, a5⟩
    refine ⟨trivial, (show t ≠ 0 by omega), trivial, by simp [RV.d, eqOk], by simp [RV.d, eqOk], decide (l'.fmod t = 0), by rw [← eqD_int]; rfl, ?_⟩
    refine ite_b (fun hm0 => ?_) fun hm0 => ?_
    · have hm0 := of_decide_eq_true hm0
      obtain ⟨f', b1, b2, b3, b4⟩ := out_step (o := o) a1 ht a4 hm0
      refine ⟨trivial, ⟨(show t ≠ 0 by omega), (show t.natAbs.log2 < 9000 by omega)⟩, trivial, ⟨f', b1, l'.fdiv t, o + 1, rfl, b2, ?_, by omega, b3, b4 ▸ a5⟩⟩
      have : l'.fdiv t = l' / t := Int.fdiv_eq_ediv_of_nonneg _ (by omega)
      rw [this]
      have := Int.ediv_le_self t (show 0 ≤ l' by omega)
      omega
    · have hm0 := of_decide_eq_false hm0
      rw [out_end hm0] at a5
      have e1 : (outL l.toNat l t 0).1 = l' := by rw [← a5]
      have e2 : (outL l.toNat l t 0).2 = o := by rw [← a5]
      rw [splG, if_pos hb, e1, e2] at hs
      refine ⟨trivial, trivial, decide (0 < o), rfl, ite_b (fun ho => ?_) fun ho => ?_⟩
      · have ho := of_decide_eq_true ho
        rw [if_pos ho] at hs
        refine ⟨⟨_, rfl⟩, (show 2 ≤ sizeLine from sizeL (by decide)), _, rfl, by rw [lenP]; exact sizeLt (by omega), ?_⟩
        refine ⟨trivial, m', by omega, fl ++ [(t, o)], l', t + 1, .val (.int o), ?_, by omega, by omega, ⟨by omega, by omega⟩, by omega, ?_, ?_⟩
        · simp [pairsD, pairD, RV.d]
        · have : 2 * l' ≤ l := by
            rw [e1, e2] at o4
            rcases o4 with z | z <;> omega
          rw [List.length_append, List.length_singleton, Nat.pow_succ, Nat.mul_assoc]
          exact Nat.le_trans (Nat.mul_le_mul_left _ (by omega)) hfl
        · rw [List.append_assoc]; exact hs
      · have ho := of_decide_eq_false ho
        rw [if_neg ho, List.nil_append] at hs
        exact ⟨trivial, m', by omega, fl, l', t + 1, .val (.int o), rfl, by omega, by omega, ⟨by omega, by omega⟩, by omega, Nat.le_trans (Nat.mul_le_mul_left _ (by omega)) hfl, hs⟩
  · have hb := of_decide_eq_false hb
    obtain ⟨m', rfl⟩ : ∃ m', m = m' + 1 := ⟨m - 1, by omega⟩
    rw [splG, if_neg hb] at hs
    refine ⟨trivial, trivial, decide (1 < l), rfl, ite_b (fun h => ?_) fun h => ?_⟩
    · rw [if_pos (of_decide_eq_true h)] at hs
      refine ⟨⟨_, rfl⟩, (show 2 ≤ sizeLine from sizeL (by decide)), _, rfl, by rw [lenP]; exact sizeLt (by omega), ?_⟩
      refine ⟨rfl, ?_⟩
      rw [← hs] at hQ
      simp only [pairsD, pairD, List.map_append, List.map_cons, List.map_nil] at hQ ⊢
      exact hQ
    · rw [if_neg (of_decide_eq_false h), List.append_nil] at hs
      refine ⟨rfl, ?_⟩
      rw [hs]
      exact hQ
end DL

set_option maxHeartbeats 4000000
namespace DL
open PySem PySem.Spec PyProof.Rows L2 LamX
variable (mg : Str → Option Value)
theorem len_is_prime : ∀ da ds Q er, sp_is_prime mg da ds Q er → ds.length = 1 := fun _ _ _ _ ⟨_, e, _⟩ => by rw [e]; rfl
theorem eqv_pairs : ∀ a b : List (Int × Int), PyData.eqvAll (toPys (pairsD a)) (toPys (pairsD b)) = decide (a = b)
  | [], [] => by simp [pairsD, toPys, PyData.eqvAll]
  | [], _ :: _ => by simp [pairsD, toPys, PyData.eqvAll]
  | _ :: _, [] => by simp [pairsD, toPys, PyData.eqvAll]
  | (x1, x2) :: a, (y1, y2) :: b => by
    have ih := eqv_pairs a b
    unfold pairsD at ih ⊢
    simp only [List.map_cons, toPys, pairD, toPy, PyData.eqvAll, PyData.eqv, ih]
    by_cases h1 : x1 = y1 <;> by_cases h2 : x2 = y2 <;> simp [h1, h2]
theorem hp_is_prime : ∀ da ds Q er, sp_is_prime mg da ds Q er → p_is_prime mg da { nx := fun _ => Q .non, rt := Q, er := er } (startP 1 ds) := by
  rintro da ds Q er ⟨n, rfl, hn, hQ⟩
  refine ⟨trivial, trivial, decide (1 < n), rfl, ite_b (fun h => ?_) fun h => ?_⟩
  · have h1 := of_decide_eq_true h
    refine ⟨n, rfl, by omega, hn, (show 2 ≤ sizeLine from sizeL (by decide)), (show 1 ≤ sizeLine from sizeL (by decide)), trivial, pairs_eq 62 _, pairs_eq 62 [(n, 1)], ?_⟩
    have e : eqD (.lst (pairsD (splF n))) (.lst [.tup [.int n, .int 1]]) = primeB n := by
      unfold eqD primeB
      rw [h, Bool.true_and, toPy, toPy, PyData.eqv]
      exact eqv_pairs (splF n) [(n, 1)]
    rw [← e] at hQ
    exact hQ
  · have : primeB n = false := by unfold primeB; rw [h]; rfl
    rw [this] at hQ
    exact hQ
theorem len_next_prime : ∀ da ds Q er, sp_next_prime mg da ds Q er → ds.length = 1 := fun _ _ _ _ ⟨_, _, e, _⟩ => by rw [e]; rfl
theorem hp_next_prime : ∀ da ds Q er, sp_next_prime mg da ds Q er → p_next_prime mg da { nx := fun _ => Q .non, rt := Q, er := er } (startP 2 ds) := by
  rintro da ds Q er ⟨n, q, rfl, hn, hQ⟩
  obtain ⟨a1, a2, a3, a4, a5⟩ := nxt_ok n q hn
  refine ⟨trivial, ⟨fun m ps => ∃ i : Int, ps = [.val (.int n), .val (.int i)] ∧ n < i ∧ i ≤ q ∧ (m : Int) = q - i, ⟨(q - n - 1).toNat, n + 1, rfl, by omega, by omega, by omega⟩, ?_⟩⟩
  rintro m ps ⟨i, rfl, b1, b2, b3⟩
  refine ⟨i, rfl, by omega, primeB i, rfl, ite_b (fun h => ?_) fun h => ?_⟩
  · have h : primeB i = false := by simpa using h
    have : i ≠ q := fun z => by rw [z, a4] at h; cases h
    exact ⟨trivial, (q - (i + 1)).toNat, by omega, i + 1, rfl, by omega, by omega, by omega⟩
  · have h : primeB i = true := by simpa using h
    have : i = q := by
      by_cases z : i < q
      · rw [a5 i b1 z] at h; cases h
      · omega
    subst this
    exact hQ
theorem len_is_poly_by : ∀ da ds Q er, sp_is_poly_by mg da ds Q er → ds.length = 1 := fun _ _ _ _ ⟨_, e, _⟩ => by rw [e]; rfl
theorem eqOks_mem {n : Nat} : ∀ {l : List D}, eqOks n l = true → ∀ x ∈ l, eqOk n x = true
  | [], _, x, hx => by cases hx
  | d :: r, h, x, hx => by
    simp only [eqOks, Bool.and_eq_true] at h
    rcases List.mem_cons.mp hx with z | z
    · rw [z]; exact h.1
    · exact eqOks_mem h.2 x z
theorem hp_is_poly_by : ∀ da ds Q er, sp_is_poly_by mg da ds Q er → p_is_poly_by mg da { nx := fun _ => Q .non, rt := Q, er := er } (startP 2 ds) := by
  rintro da ds Q er ⟨d, rfl, hd, hQ⟩
  have hdt := okP_dt hd
  refine ⟨trivial, .tuple, _, rfl, isi_tup hdt, _, rfl, ?_⟩
  cases d with
  | tup l =>
    have hl : eqOks 49 l = true := by
      rcases hd with h | h
      · rw [eqOk] at h; exact h
      · cases h
    refine ite_b (fun h => by cases h) fun _ => ?_
    refine ⟨l.length, rfl, trivial, trivial, decide (200 < (l.length : Int)), rfl, ite_b (fun h => ?_) fun h => ?_⟩
    · have h := of_decide_eq_true h
      have : isPolyB (.tup l) = false := by
        have z : ¬ l.length ≤ 200 := by omega
        simp [isPolyB, z]
      rw [this] at hQ; exact hQ
    · have h := of_decide_eq_false h
      refine ⟨l, rfl, ?_⟩
      refine runLc_inv (fun i acc => acc = (l.take i).map fun x => D.bl (isW x)) [.val (.tup l), .no] l 0 [] rfl (fun i x acc K e hJ hK => ?_) fun acc hacc => ?_
      · have hx : dtD x = true := okP_dt (.inl (eqOk_le (by decide) (eqOks_mem hl x (List.mem_of_getElem? e))))
        refine ⟨x, rfl, hx, ?_, hK _ ?_⟩
        · rw [hJ, List.length_map, List.length_take]; exact sizeLt (by omega)
        · rw [hJ, Nat.zero_add, List.take_succ, e]; simp [RV.d]
      · rw [Nat.zero_add, List.take_length] at hacc
        subst hacc
        refine ⟨l.map isW, by rw [show (l.map fun x => D.bl (isW x)) = (l.map isW).map D.bl by rw [List.map_map]; rfl]; exact blsOf_map _, _, rfl, ?_⟩
        have hall : (l.map isW).all id = l.all isW := by rw [List.all_map]; rfl
        rw [hall]
        have goodD : isPolyB (.tup l) = (l.all isW && lastNZ l) := by
          have z : l.length ≤ 200 := by omega
          simp [isPolyB, z]
        refine ite_b (fun h2 => ?_) fun h2 => ?_
        · have h2 : l.all isW = false := by simpa using h2
          rw [goodD, h2] at hQ
          exact hQ
        · have h2 : l.all isW = true := by simpa using h2
          rw [goodD, h2, Bool.true_and] at hQ
          refine ⟨(show 0 ≤ sizeLine from sizeL (by decide)), trivial, eqOk_le (show 50 ≤ 64 by decide) (by show eqOk 50 (.tup l) = true; rw [eqOk]; exact hl), by rfl, ?_⟩
          have hints := ints_of_all h2
          obtain ⟨m, rfl⟩ := hints
          refine ⟨eqD (tI m) (tI []), rfl, ?_⟩
          rw [eqD_tI]
          refine ite_b (fun h3 => ?_) fun h3 => ?_
          · have h3 := of_decide_eq_true h3
            subst h3
            exact hQ
          · have h3 := of_decide_eq_false h3
            rcases List.eq_nil_or_concat m with z | ⟨m', x, z⟩
            · exact absurd z h3
            · rw [List.concat_eq_append] at z
              subst z
              refine ⟨trivial, (m' ++ [x]).map D.int, .int x, rfl, by rw [List.map_append]; exact atI_last, trivial, by rfl, by rfl, ?_⟩
              have : eqD (.int x) (.int 0) = isZ (.int x) := eqD_int x 0
              show Q (.bl (!eqD (.int x) (.int 0)))
              rw [this]
              have e2 : lastNZ ((m' ++ [x]).map D.int) = !isZ (.int x) := by simp [lastNZ]
              rw [e2] at hQ
              exact hQ
  | _ => exact hQ
theorem len_trimmed : ∀ da ds Q er, sp_trimmed mg da ds Q er → ds.length = 1 := fun _ _ _ _ ⟨_, e, _⟩ => by rw [e]; rfl
theorem cut_to (xs : List D) {k : Nat} (h : k ≤ xs.length) : cutD xs none (some (k : Int)) = xs.take k := by
  unfold cutD HT.sIx
  have h1 : ¬ ((k : Int) < 0) := by omega
  simp [h1, h]
theorem map_take_int (l : List Int) (n : Nat) : (l.map D.int).take n = (l.take n).map D.int := (List.map_take ..).symm
theorem hp_trimmed : ∀ da ds Q er, sp_trimmed mg da ds Q er → p_trimmed mg da { nx := fun _ => Q .non, rt := Q, er := er } (startP 2 ds) := by
  rintro da ds Q er ⟨l, rfl, hl, hQ⟩
  refine ⟨(l.map D.int).length, rfl, ?_⟩
  refine ⟨fun m ps => ps = [.val (lI l), .val (.int (m : Nat))] ∧ m ≤ l.length ∧ trim (l.take m) = trim l, ⟨l.length, congrArg (fun z => [PV.val (lI l), PV.val (D.int z)]) (show (((l.map D.int).length : Nat) : Int) = ((l.length : Nat) : Int) by simp), Nat.le_refl _, by rw [List.take_length]⟩, ?_⟩
  rintro k ps ⟨rfl, hk, ht⟩
  have fin : (¬ (0 < k ∧ l.getD (k - 1) 0 = 0)) → (pRet (pUn oTuple (pSl (pVar 0) pNoPart (pPart (pVar 1))))) { nx := fun _ => Q .non, rt := Q, er := er } [.val (lI l), .val (.int k)] := fun hn => by
    refine ⟨(k : Int), rfl, trivial, ?_⟩
    have e : trim (l.take k) = l.take k := by
      cases k with
      | zero => rfl
      | succ k =>
        have hk' : k < l.length := by omega
        rw [List.take_succ, List.getElem?_eq_getElem hk', Option.toList_some]
        refine trim_nz _ fun z => hn ⟨by omega, ?_⟩
        simp [hk', z]
    rw [← ht, e] at hQ
    show Q (.tup (cutD (l.map D.int) none (some (k : Int))))
    rw [cut_to _ (by rw [List.length_map]; exact hk), map_take_int]
    exact hQ
  refine ⟨trivial, trivial, decide (0 < (k : Int)), rfl, ite_b (fun h => ?_) fun h => ?_⟩
  · have h : 0 < k := by have := of_decide_eq_true h; omega
    have hk1 : k - 1 < l.length := by omega
    refine ⟨trivial, trivial, trivial, l.map D.int, .int l[k - 1], rfl, ?_, trivial, by rfl, by rfl, decide (l[k - 1] = 0), by rw [← eqD_int]; rfl, ite_b (fun h2 => ?_) fun h2 => ?_⟩
    · refine atI_nn (by omega) ?_
      rw [show ((k : Int) - 1).toNat = k - 1 by omega, List.getElem?_map, List.getElem?_eq_getElem hk1]; rfl
    · have h2 := of_decide_eq_true h2
      refine ⟨trivial, trivial, k - 1, by omega, ?_, by omega, ?_⟩
      · exact congrArg (fun z => [PV.val (lI l), PV.val (D.int z)]) (show ((k : Int) - 1) = ((k - 1 : Nat) : Int) by omega)
      · rw [← ht]
        have e : l.take k = l.take (k - 1) ++ [0] := by
          have := List.take_succ (l := l) (i := k - 1)
          rw [show k - 1 + 1 = k by omega, List.getElem?_eq_getElem hk1, Option.toList_some, h2] at this
          exact this
        rw [e, trim_zero]
    · have h2 := of_decide_eq_false h2
      refine fin fun z => h2 ?_
      have := z.2
      simpa [hk1] using this
  · refine fin fun z => ?_
    have := of_decide_eq_false h
    omega
end DL

set_option maxHeartbeats 4000000
namespace DL
open PySem PySem.Spec PyProof.Rows L2 LamX
variable (mg : Str → Option Value)
theorem len_added_by : ∀ da ds Q er, sp_added_by mg da ds Q er → ds.length = 2 := fun _ _ _ _ ⟨_, _, e, _⟩ => by rw [e]; rfl
theorem enD_int {l : List Int} {i : Nat} {d : D} (h : (enD (l.map D.int))[i]? = some d) : ∃ x, l[i]? = some x ∧ d = .tup [.int (i : Nat), .int x] := by
  obtain ⟨x, e, rfl⟩ := enD_get h
  rw [List.getElem?_map] at e
  cases q : l[i]? with
  | none => rw [q] at e; cases e
  | some y => rw [q] at e; cases e; exact ⟨y, rfl, rfl⟩
theorem getD_of? {l : List Int} {i : Nat} {x : Int} (h : l[i]? = some x) : l.getD i 0 = x := by rw [List.getD_eq_getElem?_getD, h]; rfl
theorem getD_out {l : List Int} {i : Nat} (h : l.length ≤ i) : l.getD i 0 = 0 := by rw [List.getD_eq_getElem?_getD, List.getElem?_eq_none h]; rfl
theorem getD_map (l : List Int) {i : Nat} (h : i < l.length) : (l.map D.int)[i]? = some (.int (l.getD i 0)) := by
  rw [List.getElem?_map, List.getElem?_eq_getElem h]
  simp [h]
/-- item + (short[at] if at < len(short) else 0) -/
theorem range_map_ints (f : Nat → Int) (n : Nat) : (List.range n).map (fun i => D.int (f i)) = ((List.range n).map f).map D.int := by rw [List.map_map]; rfl
theorem hp_added_by : ∀ da ds Q er, sp_added_by mg da ds Q er → p_added_by mg da { nx := fun _ => Q .non, rt := Q, er := er } (startP 6 ds) := by
  rintro da ds Q er ⟨a, b, rfl, ha, hb, hQ⟩
  have main : ∀ (l s : List Int), s.length ≤ l.length → l.length ≤ 1000 → trim (addL l s) = trim (addL a b) → (pRet (pCall da (sp_trimmed mg) (pCons (pLc (pEnum (pCons (pVar 2) pNil)) (gT 2 (gsCons (gN 5) (gsCons (gN 4) gsNil))) pYes (pBin oAdd (pVar 4) (pIf (pTest (pBin oLt (pVar 5) (pUn oLen (pVar 3)))) (pBin oIx (pVar 3) (pVar 5)) (pC (.int 0)))) [5, 4]) pNil))) { nx := fun _ => Q .non, rt := Q, er := er } [.val (tI a), .val (tI b), .val (tI l), .val (tI s), .no, .no] := fun l s hs hl he => by
    refine ⟨tI l, l.map D.int, rfl, rfl, ?_⟩
    refine runLc_inv (fun i acc => acc = (List.range i).map fun i => D.int (l.getD i 0 + s.getD i 0)) [.val (tI a), .val (tI b), .val (tI l), .val (tI s), .no, .no] (enD (l.map D.int)) 0 [] rfl (fun i d acc K e hJ hK => ?_) fun acc hacc => ?_
    · obtain ⟨x, ex, rfl⟩ := enD_int e
      rw [Nat.zero_add] at hJ
      have hlt : i < l.length := (List.getElem?_eq_some_iff.mp ex).1
      have fin : ∀ z, z = s.getD i 0 → acc.length < sizeLine ∧ K (acc ++ [D.int (x + z)]) [.val (tI a), .val (tI b), .val (tI l), .val (tI s), .no, .no] := fun z hz => by
        refine ⟨by rw [hJ, List.length_map, List.length_range]; exact sizeLt (by omega), hK _ ?_⟩
        rw [Nat.zero_add, hJ, List.range_succ, List.map_append, List.map_singleton, getD_of? ex, hz]
      refine ⟨_, rfl, rfl, _, _, rfl, _, _, rfl, rfl, (s.map D.int).length, rfl, trivial, trivial, decide ((i : Int) < ((s.map D.int).length : Nat)), rfl, ite_b (fun h => ?_) fun h => ?_⟩
      · have h : i < s.length := by have := of_decide_eq_true h; simpa using this
        refine ⟨trivial, s.map D.int, .int (s.getD i 0), rfl, atI_nn (by omega) ?_, trivial, fin _ rfl⟩
        rw [Int.toNat_natCast]; exact getD_map s h
      · have h : s.length ≤ i := by have := of_decide_eq_false h; simp at this; omega
        exact ⟨trivial, fin 0 (getD_out h).symm⟩
    · rw [Nat.zero_add, enD_len, List.length_map] at hacc
      subst hacc
      rw [range_map_ints]
      refine ⟨_, rfl, by simp; omega, ?_⟩
      have : (List.range l.length).map (fun i => l.getD i 0 + s.getD i 0) = addL l s := by unfold addL; rw [Nat.max_eq_left hs]
      rw [this, he]
      exact hQ
  refine ⟨(a.map D.int).length, rfl, (b.map D.int).length, rfl, trivial, trivial, decide (((b.map D.int).length : Int) ≤ ((a.map D.int).length : Nat)), rfl, ite_b (fun h => ?_) fun h => ?_⟩
  · have h : b.length ≤ a.length := by have := of_decide_eq_true h; simpa using this
    exact ⟨(show 2 ≤ sizeLine from sizeL (by decide)), _, rfl, rfl, _, _, rfl, _, _, rfl, rfl, main a b h ha rfl⟩
  · have h : a.length ≤ b.length := by have := of_decide_eq_false h; simp at this; omega
    refine ⟨(show 2 ≤ sizeLine from sizeL (by decide)), _, rfl, rfl, _, _, rfl, _, _, rfl, rfl, main b a h hb (trim_ext fun k => ?_)⟩
    rw [addL_getD, addL_getD]; omega
/-! ### products -/
/-- row i added, the first j places of it -/
def rowF (a b f : List Int) (i j : Nat) (k : Nat) : Int := f.getD k 0 + (if i ≤ k ∧ k < i + j then a.getD i 0 * b.getD (k - i) 0 else 0)
theorem set_getD (f : List Int) (p : Nat) (x : Int) (k : Nat) : (f.set p x).getD k 0 = if p = k ∧ p < f.length then x else f.getD k 0 := by
  rw [List.getD_eq_getElem?_getD, List.getElem?_set]
  by_cases h : p = k
  · subst h
    by_cases h2 : p < f.length
    · simp [h2]
    · simp [h2, List.getD_eq_getElem?_getD]
  · simp [h, List.getD_eq_getElem?_getD]
theorem conv_upto (a b : List Int) (i k : Nat) : sumTo (i + 1) (fun i => if i ≤ k then a.getD i 0 * b.getD (k - i) 0 else 0) = sumTo i (fun i => if i ≤ k then a.getD i 0 * b.getD (k - i) 0 else 0) + (if i ≤ k then a.getD i 0 * b.getD (k - i) 0 else 0) := rfl
def cvn (a b : List Int) (n k : Nat) : Int := sumTo n fun i => if i ≤ k then a.getD i 0 * b.getD (k - i) 0 else 0
theorem cvn_succ (a b : List Int) (i k : Nat) : cvn a b (i + 1) k = cvn a b i k + (if i ≤ k then a.getD i 0 * b.getD (k - i) 0 else 0) := rfl
theorem log2_le {x k : Nat} (h : x ≤ 2 ^ k) : x.log2 < k + 1 := log2_lt_of (by rw [Nat.pow_succ]; have := Nat.pow_pos (n := k) (show 0 < 2 by decide); omega) (by omega)
theorem cmulB_of {x y : Int} {j k : Nat} (hx : x.natAbs ≤ 2 ^ j) (hy : y.natAbs ≤ 2 ^ k) (h : j + k + 2 < 100000000) : CMulB x y := by
  have h1 := log2_le hx
  have h2 := log2_le hy
  show _ + _ < _
  omega
theorem int_at (f : List Int) {i : Int} (h0 : 0 ≤ i) (h : i < f.length) : atI (f.map D.int) i = some (.int (f.getD i.toNat 0)) := atI_nn h0 (getD_map f (by omega))
theorem map_set_int (f : List Int) (p : Nat) (x : Int) : (f.map D.int).set p (.int x) = (f.set p x).map D.int := (List.map_set ..).symm
theorem len_times_by : ∀ da ds Q er, sp_times_by mg da ds Q er → ds.length = 2 := fun _ _ _ _ ⟨_, _, e, _⟩ => by rw [e]; rfl
theorem hp_times_by : ∀ da ds Q er, sp_times_by mg da ds Q er → p_times_by mg da { nx := fun _ => Q .non, rt := Q, er := er } (startP 7 ds) := by
  rintro da ds Q er ⟨a, b, rfl, ha, hb, ba, bb, hQ⟩
  obtain ⟨N, hN⟩ : ∃ N, N = (a.length + b.length - 1 : Nat) := ⟨_, rfl⟩
  refine ⟨(show 1 ≤ sizeLine from sizeL (by decide)), (a.map D.int).length, rfl, (b.map D.int).length, rfl, trivial, trivial, trivial, trivial, trivial, trivial, ?_⟩
  have eN : (if (((a.map D.int).length : Nat) : Int) + ((b.map D.int).length : Nat) - 1 > 0 then (((a.map D.int).length : Nat) : Int) + ((b.map D.int).length : Nat) - 1 else 0) = (N : Int) := by
    rw [List.length_map, List.length_map, hN]
    split <;> omega
  have hN1 : N ≤ 800 := by omega
  change oMul (.lst [.int 0]) (.int (if (_ : Int) > (_ : Int) then (_ : Int) else (_ : Int))) _
  rw [eN]
  have flat : (List.replicate N [D.int 0]).flatten = (List.replicate N (0 : Int)).map D.int := by
    clear eN hN hN1
    induction N with
    | zero => rfl
    | succ n ih => rw [List.replicate_succ, List.flatten_cons, ih, List.replicate_succ]; rfl
  refine ⟨by omega, by omega, by rw [Int.toNat_natCast]; show 1 * N ≤ sizeLine; exact sizeL (by omega), ?_⟩
  rw [Int.toNat_natCast, flat]
  -- the outer loop
  refine ⟨tI a, a.map D.int, rfl, rfl, ?_⟩
  refine runFor_inv (fun i ps => ∃ (f : List Int) (x1 x2 x3 x4 : PV), ps = [.val (tI a), .val (tI b), .own (lI f), x1, x2, x3, x4] ∧ f.length = N ∧ ∀ k, f.getD k 0 = cvn a b i k) (enD (a.map D.int)) 0 _ ⟨List.replicate N 0, .no, .no, .no, .no, rfl, by simp, fun k => ?_⟩ (fun i d ps K e hI hK => ?_) fun ps hI => ?_
  · rw [List.getD_eq_getElem?_getD, List.getElem?_replicate]
    show (if k < N then some 0 else none).getD 0 = 0
    split <;> rfl
  · obtain ⟨x, ex, rfl⟩ := enD_int e
    obtain ⟨f, x1, x2, x3, x4, rfl, hf, hc⟩ := hI
    rw [Nat.zero_add] at hc hK
    have hi : i < a.length := (List.getElem?_eq_some_iff.mp ex).1
    have hx := getD_of? ex
    refine ⟨_, rfl, rfl, _, _, rfl, _, _, rfl, rfl, ?_⟩
    refine ⟨trivial, by rfl, by rfl, !eqD (.int x) (.int 0), rfl, ite_b (fun h => ?_) fun h => ?_⟩
    · rw [eqD_int] at h
      -- the inner loop
      refine ⟨tI b, b.map D.int, rfl, rfl, ?_⟩
      refine runFor_inv (fun j ps => ∃ (g : List Int) (x3 x4 : PV), ps = [.val (tI a), .val (tI b), .own (lI g), .val (.int (i : Nat)), .val (.int x), x3, x4] ∧ g.length = N ∧ ∀ k, g.getD k 0 = rowF a b f i j k) (enD (b.map D.int)) 0 _ ⟨f, x3, x4, rfl, hf, fun k => ?_⟩ (fun j d ps K2 e2 hI2 hK2 => ?_) fun ps hI2 => ?_
      · unfold rowF
        rw [if_neg (by omega)]; omega
      · obtain ⟨y, ey, rfl⟩ := enD_int e2
        obtain ⟨g, x3, x4, rfl, hg, hr⟩ := hI2
        rw [Nat.zero_add] at hr hK2
        have hj : j < b.length := (List.getElem?_eq_some_iff.mp ey).1
        have hy := getD_of? ey
        have hij : i + j < N := by omega
        refine ⟨_, rfl, rfl, _, _, rfl, _, _, rfl, rfl, ?_⟩
        have bx : x.natAbs ≤ 2 ^ 10000 := by rw [← hx]; exact ba.getD i
        have by' : y.natAbs ≤ 2 ^ 10000 := by rw [← hy]; exact bb.getD j
        refine ⟨trivial, rfl, g.map D.int, .int (g.getD (i + j) 0), rfl, ?_, trivial, cmulB_of bx by' (by decide), trivial, ⟨_, rfl⟩, trivial, g.map D.int, (i : Int) + (j : Nat), i + j, rfl, rfl, ?_, ?_⟩
        · have := int_at g (i := (i : Int) + (j : Nat)) (by omega) (by omega)
          rw [show ((i : Int) + (j : Nat)).toNat = i + j by omega] at this
          exact this
        · have := ixN_nn (n := (g.map D.int).length) (i := (i : Int) + (j : Nat)) (by omega) (by rw [List.length_map]; omega)
          rw [show ((i : Int) + (j : Nat)).toNat = i + j by omega] at this
          exact this
        · refine hK2 _ ⟨g.set (i + j) (g.getD (i + j) 0 + x * y), .val (.int (j : Nat)), .val (.int y), ?_, by rw [List.length_set]; exact hg, fun k => ?_⟩
          · show [PV.val (tI a), PV.val (tI b), PV.own (.lst ((g.map D.int).set (i + j) (.int (g.getD (i + j) 0 + x * y)))), _, _, _, _] = _
            rw [map_set_int]; rfl
          · rw [set_getD]
            by_cases hk : i + j = k
            · subst hk
              rw [if_pos ⟨rfl, by omega⟩, hr]
              unfold rowF
              rw [if_neg (by omega), if_pos ⟨by omega, by omega⟩, hx, show i + j - i = j by omega, hy]
              omega
            · rw [if_neg (fun z => hk z.1), hr]
              unfold rowF
              by_cases hk2 : i ≤ k ∧ k < i + j
              · rw [if_pos hk2, if_pos ⟨hk2.1, by omega⟩]
              · rw [if_neg hk2, if_neg (by omega)]
      · obtain ⟨g, x3, x4, rfl, hg, hr⟩ := hI2
        refine hK _ ⟨g, _, _, x3, x4, rfl, hg, fun k => ?_⟩
        rw [hr, Nat.zero_add, enD_len, List.length_map]
        unfold rowF
        rw [hc]
        rw [cvn_succ]
        congr 1
        by_cases hk : i ≤ k
        · rw [if_pos hk]
          by_cases hk2 : k < i + b.length
          · rw [if_pos ⟨hk, hk2⟩]
          · rw [if_neg (by omega), getD_out (l := b) (by omega), Int.mul_zero]
        · rw [if_neg hk, if_neg (by omega)]
    · rw [eqD_int] at h
      have h : x = 0 := by simpa using h
      refine hK _ ⟨f, _, _, _, _, rfl, hf, fun k => ?_⟩
      rw [cvn_succ, hc, hx, h, Int.zero_mul]
      split <;> omega
  · obtain ⟨f, x1, x2, x3, x4, rfl, hf, hc⟩ := hI
    rw [Nat.zero_add, enD_len, List.length_map] at hc
    refine ⟨rfl, f, rfl, by omega, ?_⟩
    have : trim f = trim (mulL a b) := trim_ext fun k => by rw [hc, mulL_getD]; rfl
    rw [this]
    exact hQ
theorem len_power_by : ∀ da ds Q er, sp_power_by mg da ds Q er → ds.length = 2 := fun _ _ _ _ ⟨_, _, e, _⟩ => by rw [e]; rfl
theorem hp_power_by : ∀ da ds Q er, sp_power_by mg da ds Q er → p_power_by mg da { nx := fun _ => Q .non, rt := Q, er := er } (startP 4 ds) := by
  rintro da ds Q er ⟨a, k, rfl, ha, ba, h0, h12, hQ⟩
  refine ⟨(show 1 ≤ sizeLine from sizeL (by decide)), k, rfl, by omega, by omega, ?_⟩
  refine runFor_inv (fun i ps => ∃ (x1 : PV), ps = [.val (tI a), .val (.int k), .val (tI (powL a i)), x1]) (rgD 0 k.toNat) 0 _ ⟨.no, rfl⟩ (fun i d ps K e hI hK => ?_) fun ps hI => ?_
  · obtain ⟨x1, rfl⟩ := hI
    rw [Nat.zero_add] at hK ⊢
    have hi : i < k.toNat := by
      have := (List.getElem?_eq_some_iff.mp e).1
      rwa [rgD_len] at this
    obtain ⟨h1, h2⟩ := powL_bd ha ba i (by omega)
    refine ⟨powL a i, a, rfl, by omega, by omega, h2.mono (Nat.pow_le_pow_right (by decide) (by omega)), ba.mono (Nat.pow_le_pow_right (by decide) (by decide)), ?_⟩
    exact hK _ ⟨_, rfl⟩
  · obtain ⟨x1, rfl⟩ := hI
    rw [Nat.zero_add, rgD_len]
    exact hQ
end DL

set_option maxHeartbeats 4000000
namespace DL
open PySem PySem.Spec PyProof.Rows L2 LamX
variable (mg : Str → Option Value)
theorem len_at_by : ∀ da ds Q er, sp_at_by mg da ds Q er → ds.length = 2 := fun _ _ _ _ ⟨_, _, e, _⟩ => by rw [e]; rfl
theorem map_rev_int (l : List Int) : (l.map D.int).reverse = l.reverse.map D.int := (List.map_reverse ..).symm
theorem evalL_rev (a : List Int) (v : Int) : evalL a v = a.reverse.foldl (fun f x => f * v + x) 0 := by
  unfold evalL
  rw [List.foldl_reverse]
theorem horner {Q : D → Prop} {er : PEr} {a : List Int} {v : Int} (ha : a.length ≤ 400) (ba : Bd a (2 ^ 1000)) (hv : v.natAbs < 2 ^ 1000) (hQ : Q (.int (evalL a v))) :
    (pSeq (pSet 2 (pC (.int 0))) (pSeq (pFor (pItS (pUn oRevT (pVar 0))) (gN 3) (pSet 2 (pBin oAdd (pBin oMul (pVar 2) (pVar 1)) (pVar 3)))) (pRet (pVar 2)))) { nx := fun _ => Q .non, rt := Q, er := er } (startP 4 [tI a, .int v]) := by
  refine ⟨(a.map D.int).reverse, rfl, ?_⟩
  rw [map_rev_int]
  have br : Bd a.reverse (2 ^ 1000) := fun x hx => ba x (List.mem_reverse.mp hx)
  rw [evalL_rev] at hQ
  revert hQ
  have hl : a.reverse.length ≤ 400 := by rw [List.length_reverse]; exact ha
  generalize a.reverse = r at br hl
  intro hQ
  refine runFor_inv (fun i ps => ∃ (f : Int) (x : PV), ps = [.val (tI a), .val (.int v), .val (.int f), x] ∧ f = (r.take i).foldl (fun f x => f * v + x) 0 ∧ f.natAbs ≤ i * 2 ^ (1000 * i)) (r.map D.int) 0 _ ⟨0, .no, rfl, rfl, by simp⟩ (fun i d ps K e hI hK => ?_) fun ps hI => ?_
  · obtain ⟨f, x1, rfl, hf, hb⟩ := hI
    rw [Nat.zero_add] at hf hb hK
    rw [List.getElem?_map] at e
    cases q : r[i]? with
    | none => rw [q] at e; cases e
    | some x =>
      rw [q] at e
      have e := (Option.some.inj e).symm
      subst e
      have hi : i < r.length := (List.getElem?_eq_some_iff.mp q).1
      have bx := br x (List.mem_of_getElem? q)
      have h9 : i ≤ 2 ^ 9 := by have : (2 : Nat) ^ 9 = 512 := by decide
                                omega
      have bf : f.natAbs ≤ 2 ^ (9 + 1000 * i) := by
        rw [Nat.pow_add]
        exact Nat.le_trans hb (Nat.mul_le_mul_right _ h9)
      refine ⟨trivial, cmulB_of bf (Nat.le_of_lt hv) (by omega), trivial, ?_⟩
      refine hK _ ⟨f * v + x, _, rfl, ?_, ?_⟩
      · rw [List.take_succ, q, Option.toList_some, List.foldl_append, ← hf]; rfl
      · have h1 : (f * v + x).natAbs ≤ f.natAbs * v.natAbs + x.natAbs := by
          have := Int.natAbs_add_le (f * v) x
          rw [Int.natAbs_mul] at this
          exact this
        have h2 : f.natAbs * v.natAbs ≤ i * 2 ^ (1000 * i) * 2 ^ 1000 := Nat.mul_le_mul hb (Nat.le_of_lt hv)
        have h3 : i * 2 ^ (1000 * i) * 2 ^ 1000 = i * 2 ^ (1000 * (i + 1)) := by rw [Nat.mul_assoc, ← Nat.pow_add, show 1000 * i + 1000 = 1000 * (i + 1) by omega]
        have h4 : (2 : Nat) ^ 1000 ≤ 2 ^ (1000 * (i + 1)) := Nat.pow_le_pow_right (by decide) (by omega)
        rw [Nat.add_mul, Nat.one_mul]
        rw [h3] at h2
        exact Nat.le_trans h1 (Nat.add_le_add h2 (Nat.le_trans bx h4))
  · obtain ⟨f, x1, rfl, hf, hb⟩ := hI
    rw [Nat.zero_add, List.length_map, List.take_length] at hf
    rw [← hf] at hQ
    exact hQ
theorem hp_at_by : ∀ da ds Q er, sp_at_by mg da ds Q er → p_at_by mg da { nx := fun _ => Q .non, rt := Q, er := er } (startP 4 ds) := by
  rintro da ds Q er ⟨a, v, rfl, ha, ba, hv, hQ⟩
  exact horner ha ba hv hQ
theorem len_law_at : ∀ da ds Q er, sp_law_at mg da ds Q er → ds.length = 2 := fun _ _ _ _ ⟨_, _, e, _⟩ => by rw [e]; rfl
theorem hp_law_at : ∀ da ds Q er, sp_law_at mg da ds Q er → p_law_at mg da { nx := fun _ => Q .non, rt := Q, er := er } (startP 4 ds) := by
  rintro da ds Q er ⟨a, v, rfl, ha, ba, hv, hQ⟩
  exact horner ha ba hv hQ
theorem len_unlike_prime : ∀ da ds Q er, sp_unlike_prime mg da ds Q er → ds.length = 2 := fun _ _ _ _ ⟨_, _, e, _⟩ => by rw [e]; rfl
theorem prim_nxt : ∀ i, i + 1 < prims.length → nxtP (prims.getD i 0) = some (prims.getD (i + 1) 0) := by
  intro i hi
  have : ∀ i ∈ List.range 11, nxtP (prims.getD i 0) = some (prims.getD (i + 1) 0) := by decide
  exact this i (List.mem_range.mpr (by simp [prims] at hi; omega))
theorem prim_small : ∀ i, i < prims.length → (prims.getD i 0).natAbs < 2 ^ 1000 := by
  intro i hi
  have : ∀ i ∈ List.range 12, (prims.getD i 0).natAbs < 100 := by decide
  have h := this i (List.mem_range.mpr (by simpa [prims] using hi))
  exact Nat.lt_of_lt_of_le h (by decide)
theorem find_first (f : Int → Bool) : ∀ (l : List Int) (i : Nat), i < l.length → f (l.getD i 0) = true → (∀ j, j < i → f (l.getD j 0) = false) → l.find? f = some (l.getD i 0)
  | [], i, h, _, _ => by simp at h
  | x :: r, 0, _, h, _ => by simp at h; simp [List.find?_cons, h]
  | x :: r, i + 1, h, h1, h2 => by
    have h0 := h2 0 (by omega)
    simp at h0
    rw [List.find?_cons, h0]
    have := find_first f r i (by simpa using h) (by simpa using h1) fun j hj => by simpa using h2 (j + 1) (by omega)
    simpa using this
theorem hp_unlike_prime : ∀ da ds Q er, sp_unlike_prime mg da ds Q er → p_unlike_prime mg da { nx := fun _ => Q .non, rt := Q, er := er } (startP 3 ds) := by
  rintro da ds Q er ⟨a, b, rfl, ta, tb, la, lb, ba, bb, hQ⟩
  refine ⟨trivial, eqOk_tI 63 a, eqOk_tI 63 b, eqD (tI a) (tI b), rfl, ?_⟩
  rw [eqD_tI]
  refine ite_b (fun h => ?_) fun h => ?_
  · have h := of_decide_eq_true h
    unfold fstD at hQ
    rw [if_pos h] at hQ
    exact hQ
  · have h := of_decide_eq_false h
    unfold fstD at hQ
    rw [if_neg h] at hQ
    refine ⟨fun m ps => ∃ i, ps = [.val (tI a), .val (tI b), .val (.int (prims.getD i 0))] ∧ i < prims.length ∧ m = prims.length - i ∧ ∀ j, j < i → evalL a (prims.getD j 0) = evalL b (prims.getD j 0), ⟨12, 0, rfl, by decide, rfl, fun j hj => by omega⟩, ?_⟩
    rintro m ps ⟨i, rfl, hi, rfl, he⟩
    refine ⟨a, prims.getD i 0, rfl, by omega, ba, prim_small i hi, b, prims.getD i 0, rfl, by omega, bb, prim_small i hi, trivial, by rfl, by rfl, decide (evalL a (prims.getD i 0) = evalL b (prims.getD i 0)), by rw [← eqD_int]; rfl, ite_b (fun h2 => ?_) fun h2 => ?_⟩
    · have h2 := of_decide_eq_true h2
      have he' : ∀ j, j < i + 1 → evalL a (prims.getD j 0) = evalL b (prims.getD j 0) := fun j hj => by
        by_cases z : j = i
        · rw [z]; exact h2
        · exact he j (by omega)
      by_cases hn : i + 1 < prims.length
      · exact ⟨_, _, rfl, prim_nxt i hn, prims.length - (i + 1), by omega, i + 1, rfl, hn, rfl, he'⟩
      · refine absurd (parts ta tb la lb fun p hp => ?_) h
        obtain ⟨j, hj, e⟩ := List.mem_iff_getElem.mp hp
        have := he' j (by omega)
        rw [List.getD_eq_getElem?_getD, List.getElem?_eq_getElem hj, e] at this
        exact this
    · have h2 := of_decide_eq_false h2
      rw [find_first _ prims i hi (by simp only [Bool.not_eq_true', decide_eq_false_iff_not]; exact h2) fun j hj => by simp only [Bool.not_eq_false', decide_eq_true_eq]; exact he j hj] at hQ
      exact hQ
theorem len_need_poly : ∀ da ds Q er, sp_need_poly mg da ds Q er → ds.length = 1 := fun _ _ _ _ ⟨_, e, _⟩ => by rw [e]; rfl
theorem hp_need_poly : ∀ da ds Q er, sp_need_poly mg da ds Q er → p_need_poly mg da { nx := fun _ => Q .non, rt := Q, er := er } (startP 1 ds) := by
  rintro da ds Q er ⟨d, rfl, hd, h1, h2⟩
  refine ⟨d, rfl, hd, isPolyB d, rfl, ite_b (fun h => ?_) fun h => ?_⟩
  · exact h2 (by simpa using h)
  · exact h1 (by simpa using h)
theorem len_need_two : ∀ da ds Q er, sp_need_two mg da ds Q er → ds.length = 2 := fun _ _ _ _ ⟨_, _, e, _⟩ => by rw [e]; rfl
theorem hp_need_two : ∀ da ds Q er, sp_need_two mg da ds Q er → p_need_two mg da { nx := fun _ => Q .non, rt := Q, er := er } (startP 2 ds) := by
  rintro da ds Q er ⟨d, e, rfl, hd, h1, h2⟩
  refine ⟨d, rfl, hd, isPolyB d, rfl, ite_b (fun h => ?_) fun h => ?_⟩
  · exact h1 (by simpa using h)
  · obtain ⟨he, h3, h4⟩ := h2 (by simpa using h)
    refine ⟨e, rfl, he, isPolyB e, rfl, ite_b (fun h => ?_) fun h => ?_⟩
    · exact h3 (by simpa using h)
    · exact h4 (by simpa using h)
theorem len_is_poly : ∀ da ds Q er, sp_is_poly mg da ds Q er → ds.length = 1 := fun _ _ _ _ ⟨_, e, _⟩ => by rw [e]; rfl
theorem hp_is_poly : ∀ da ds Q er, sp_is_poly mg da ds Q er → p_is_poly mg da { nx := fun _ => Q .non, rt := Q, er := er } (startP 1 ds) := by
  rintro da ds Q er ⟨d, rfl, hd, hQ⟩
  exact ⟨d, rfl, hd, hQ⟩
theorem len_poly_at : ∀ da ds Q er, sp_poly_at mg da ds Q er → ds.length = 2 := fun _ _ _ _ ⟨_, _, e, _⟩ => by rw [e]; rfl
theorem hp_poly_at : ∀ da ds Q er, sp_poly_at mg da ds Q er → p_poly_at mg da { nx := fun _ => Q .non, rt := Q, er := er } (startP 2 ds) := by
  rintro da ds Q er ⟨d, v, rfl, hd, h1, h2⟩
  refine ⟨d, rfl, hd, fun h => ?_, h1⟩
  obtain ⟨h3, h4, h5⟩ := h2 h
  refine ⟨v, rfl, h3, isW v, rfl, ite_b (fun h => ?_) fun h => ?_⟩
  · exact h4 (by simpa using h)
  · obtain ⟨l, i, rfl, rfl, a1, a2, a3, a4⟩ := h5 (by simpa using h)
    exact ⟨l, i, rfl, a1, a2, a3, a4⟩
theorem len_poly_power : ∀ da ds Q er, sp_poly_power mg da ds Q er → ds.length = 2 := fun _ _ _ _ ⟨_, _, e, _⟩ => by rw [e]; rfl
theorem hp_poly_power : ∀ da ds Q er, sp_poly_power mg da ds Q er → p_poly_power mg da { nx := fun _ => Q .non, rt := Q, er := er } (startP 2 ds) := by
  rintro da ds Q er ⟨d, v, rfl, hd, h1, h2⟩
  refine ⟨d, rfl, hd, fun h => ?_, h1⟩
  obtain ⟨h3, h4, h5⟩ := h2 h
  refine ⟨v, 0, 12, rfl, h3, inB v 0 12, rfl, ite_b (fun h => ?_) fun h => ?_⟩
  · exact h4 (by simpa using h)
  · obtain ⟨l, i, rfl, rfl, a1, a2, a3, a4, a5⟩ := h5 (by simpa using h)
    exact ⟨l, i, rfl, a1, a2, a3, a4, a5⟩
theorem len_poly_added : ∀ da ds Q er, sp_poly_added mg da ds Q er → ds.length = 2 := fun _ _ _ _ ⟨_, _, e, _⟩ => by rw [e]; rfl
theorem hp_poly_added : ∀ da ds Q er, sp_poly_added mg da ds Q er → p_poly_added mg da { nx := fun _ => Q .non, rt := Q, er := er } (startP 2 ds) := by
  rintro da ds Q er ⟨d, e, rfl, hd, h1, h2⟩
  refine ⟨d, e, rfl, hd, h1, fun h => ⟨(h2 h).1, (h2 h).2.1, fun h3 => ?_⟩⟩
  obtain ⟨a, b, rfl, rfl, z⟩ := (h2 h).2.2 h3
  exact ⟨a, b, rfl, z⟩
theorem len_poly_times : ∀ da ds Q er, sp_poly_times mg da ds Q er → ds.length = 2 := fun _ _ _ _ ⟨_, _, e, _⟩ => by rw [e]; rfl
theorem hp_poly_times : ∀ da ds Q er, sp_poly_times mg da ds Q er → p_poly_times mg da { nx := fun _ => Q .non, rt := Q, er := er } (startP 2 ds) := by
  rintro da ds Q er ⟨d, e, rfl, hd, h1, h2⟩
  refine ⟨d, e, rfl, hd, h1, fun h => ⟨(h2 h).1, (h2 h).2.1, fun h3 => ?_⟩⟩
  obtain ⟨a, b, rfl, rfl, z⟩ := (h2 h).2.2 h3
  exact ⟨a, b, rfl, z⟩
theorem len_poly_parting : ∀ da ds Q er, sp_poly_parting mg da ds Q er → ds.length = 2 := fun _ _ _ _ ⟨_, _, e, _⟩ => by rw [e]; rfl
theorem hp_poly_parting : ∀ da ds Q er, sp_poly_parting mg da ds Q er → p_poly_parting mg da { nx := fun _ => Q .non, rt := Q, er := er } (startP 2 ds) := by
  rintro da ds Q er ⟨d, e, rfl, hd, h1, h2⟩
  refine ⟨d, e, rfl, hd, h1, fun h => ⟨(h2 h).1, (h2 h).2.1, fun h3 => ?_⟩⟩
  obtain ⟨a, b, rfl, rfl, z⟩ := (h2 h).2.2 h3
  exact ⟨a, b, rfl, z⟩
end DL

set_option maxHeartbeats 4000000
namespace DL
open PySem PySem.Spec PyProof.Rows L2 LamX
variable (mg : Str → Option Value)
theorem len_law_pick : ∀ da ds Q er, sp_law_pick mg da ds Q er → ds.length = 2 := fun _ _ _ _ ⟨_, _, _, e, _⟩ => by rw [e]; rfl
theorem log200 {n : Int} (h0 : 0 ≤ n) (h : n < 2 ^ 200) : n.natAbs.log2 < 9000 := Nat.lt_trans (log2_lt_of (k := 200) (by omega) (by decide)) (by decide)
theorem hp_law_pick : ∀ da ds Q er, sp_law_pick mg da ds Q er → p_law_pick mg da { nx := fun _ => Q .non, rt := Q, er := er } (startP 2 ds) := by
  rintro da ds Q er ⟨a, l, ha, rfl, hne, hl, hQ⟩
  have hpos : 0 < l.length := by
    cases l with
    | nil => exact absurd rfl hne
    | cons x r => simp
  have h200 : ((l.length : Nat) : Int) < 2 ^ 200 := by
    have : (1000 : Int) < 2 ^ 200 := by decide
    omega
  refine ⟨l.length, rfl, a, (l.length : Nat), ha, rfl, log200 (by omega) h200, fun v h0 hv => ?_⟩
  have hvl : v.toNat < l.length := by omega
  refine ⟨trivial, l, l[v.toNat], rfl, atI_nn h0 (List.getElem?_eq_getElem hvl), ?_⟩
  exact hQ _ (List.getElem_mem hvl)
theorem len_law_kinds : ∀ da ds Q er, sp_law_kinds mg da ds Q er → ds.length = 1 := fun _ _ _ _ ⟨_, e, _⟩ => by rw [e]; rfl
theorem eqD_nil {l : List D} : eqD (.lst l) (.lst []) = l.isEmpty := by
  unfold eqD
  rw [toPy, toPy, PyData.eqv]
  cases l <;> simp [toPys, PyData.eqvAll]
theorem kgo_len : ∀ (n : Nat) (l : List D), (kgo n l).length ≤ n
  | 0, _ => by simp [kgo]
  | n + 1, l => by
    rw [kgo]
    cases l.getLast? with
    | none => simp
    | some d => have := kgo_len n (l.dropLast ++ subs d); simp; omega
theorem eqOks_append {n : Nat} : ∀ {a b : List D}, eqOks n (a ++ b) = true ↔ eqOks n a = true ∧ eqOks n b = true
  | [], b => by simp [eqOks]
  | x :: a, b => by rw [List.cons_append, eqOks, eqOks, Bool.and_eq_true, Bool.and_eq_true, eqOks_append, and_assoc]
theorem subs_ok {n : Nat} {d : D} (h : eqOk n d = true) : eqOks n (subs d) = true := by
  cases n with
  | zero => cases d <;> first | (simp [eqOk] at h; done) | simp [subs, eqOks]
  | succ n => cases d <;> first | (simp [subs, eqOks]; done) | (rw [eqOk] at h; exact eqOks_up n _ h) | (simp [eqOk] at h; done)
theorem szs_subs (d : D) : szD d = 1 + szs (subs d) := by cases d <;> simp [szD, subs, szs]
theorem hp_law_kinds : ∀ da ds Q er, sp_law_kinds mg da ds Q er → p_law_kinds mg da { nx := fun _ => Q .non, rt := Q, er := er } (startP 5 ds) := by
  rintro da ds Q er ⟨d, rfl, hd, hsz, hQ⟩
  refine ⟨sizeL (by decide), (show 1 ≤ sizeLine from sizeL (by decide)), ?_⟩
  refine ⟨fun m ps => ∃ (f line : List D) (x : PV), ps = [.val d, .own (.lst f), .own (.lst line), x, .no] ∧ m = szs line ∧ eqOks 50 line = true ∧ f.length + m ≤ 100000 ∧ f ++ kgo m line = kgo (szD d) [d], ⟨szD d, [], [d], .no, rfl, by simp [szs], by simp [eqOks, hd], by simpa using hsz, rfl⟩, ?_⟩
  rintro m ps ⟨f, line, x, rfl, rfl, hok, hlen, hk⟩
  refine ⟨(show 0 ≤ sizeLine from sizeL (by decide)), rfl, by show eqOk 64 (.lst line) = true; rw [eqOk]; exact eqOks_le (by decide) hok, by rfl, !eqD (.lst line) (.lst []), rfl, ?_⟩
  rw [eqD_nil]
  refine ite_b (fun h => ?_) fun h => ?_
  · rcases List.eq_nil_or_concat line with z | ⟨r, o, z⟩
    · rw [z] at h; simp at h
    · rw [List.concat_eq_append] at z
      subst z
      have hok2 := eqOks_append.mp hok
      have ho : eqOk 50 o = true := by have := hok2.2; simpa [eqOks] using this
      have hszl : szs (r ++ [o]) = szs (r ++ subs o) + 1 := by
        rw [szs_append, szs_append, szs, szs, szs_subs o]; omega
      rw [hszl, kgo_snoc] at hk
      rw [hszl] at hlen
      have okn : eqOks 50 (r ++ subs o) = true := eqOks_append.mpr ⟨hok2.1, subs_ok ho⟩
      have fl : f.length < sizeLine := sizeLt (by omega)
      have inv : ∀ (s : Str) (y : PV) (g : List D), g = f ++ [.str s] → s = kindS o → ∃ m', m' < szs (r ++ [o]) ∧ ∃ (f line : List D) (x : PV), [PV.val d, .own (.lst g), .own (.lst (r ++ subs o)), y, .no] = [.val d, .own (.lst f), .own (.lst line), x, .no] ∧ m' = szs line ∧ eqOks 50 line = true ∧ f.length + m' ≤ 100000 ∧ f ++ kgo m' line = kgo (szD d) [d] := fun s y g hg hs => by
        subst hg hs
        refine ⟨szs (r ++ subs o), by omega, f ++ [.str (kindS o)], r ++ subs o, y, rfl, rfl, okn, ?_, ?_⟩
        · rw [List.length_append, List.length_singleton]; omega
        · rw [List.append_assoc]; exact hk
      refine ⟨r, o, rfl, ?_⟩
      cases o with
      | non =>
        rw [show r ++ subs D.non = r by simp [subs]] at inv
        exact ⟨trivial, .bool, false, rfl, rfl, false, rfl, if_f (by decide) ⟨trivial, rfl, true, rfl, if_t rfl ⟨⟨_, rfl⟩, _, rfl, fl, inv _ _ _ rfl rfl⟩⟩⟩
      | bl b =>
        rw [show r ++ subs (D.bl b) = r by simp [subs]] at inv
        exact ⟨trivial, .bool, true, rfl, rfl, true, rfl, if_t rfl (if_t rfl ⟨⟨_, rfl⟩, _, rfl, fl, inv _ _ _ rfl rfl⟩)⟩
      | int i =>
        rw [show r ++ subs (D.int i) = r by simp [subs]] at inv
        exact ⟨trivial, .bool, false, rfl, rfl, false, rfl, if_f (by decide) ⟨trivial, rfl, false, rfl, if_f (by decide) ⟨trivial, .int, true, rfl, rfl, true, rfl, if_t rfl ⟨⟨_, rfl⟩, _, rfl, fl, inv _ _ _ rfl rfl⟩⟩⟩⟩
      | str s =>
        rw [show r ++ subs (D.str s) = r by simp [subs]] at inv
        exact ⟨trivial, .bool, false, rfl, rfl, false, rfl, if_f (by decide) ⟨trivial, rfl, false, rfl, if_f (by decide) ⟨trivial, .int, false, rfl, rfl, false, rfl, if_f (by decide) ⟨trivial, .str, true, rfl, rfl, true, rfl, if_t rfl ⟨⟨_, rfl⟩, _, rfl, fl, inv _ _ _ rfl rfl⟩⟩⟩⟩⟩
      | lst l =>
        have hs : (r ++ l).length ≤ sizeLine := sizeL (by have := szs_len (r ++ l); rw [show r ++ l = r ++ subs (.lst l) from rfl] at this ⊢; omega)
        rw [List.length_append] at hs
        exact ⟨trivial, .bool, false, rfl, rfl, false, rfl, if_f (by decide) ⟨trivial, rfl, false, rfl, if_f (by decide) ⟨trivial, .int, false, rfl, rfl, false, rfl, if_f (by decide) ⟨trivial, .str, false, rfl, rfl, false, rfl, if_f (by decide) ⟨trivial, .list, true, rfl, rfl, true, rfl, if_t rfl (if_t rfl
          ⟨⟨_, rfl⟩, trivial, .list, true, rfl, rfl, true, rfl, if_t rfl ⟨_, rfl, fl, l, rfl, rfl, hs, inv _ _ _ rfl rfl⟩⟩)⟩⟩⟩⟩⟩
      | tup l =>
        have hs : (r ++ l).length ≤ sizeLine := sizeL (by have := szs_len (r ++ l); rw [show r ++ l = r ++ subs (.tup l) from rfl] at this ⊢; omega)
        rw [List.length_append] at hs
        exact ⟨trivial, .bool, false, rfl, rfl, false, rfl, if_f (by decide) ⟨trivial, rfl, false, rfl, if_f (by decide) ⟨trivial, .int, false, rfl, rfl, false, rfl, if_f (by decide) ⟨trivial, .str, false, rfl, rfl, false, rfl, if_f (by decide) ⟨trivial, .list, false, rfl, rfl, false, rfl, if_f (by decide) ⟨trivial, .tuple, true, rfl, rfl, true, rfl, if_t rfl
          ⟨⟨_, rfl⟩, trivial, .list, false, rfl, rfl, false, rfl, if_f (by decide) ⟨_, rfl, fl, l, rfl, rfl, hs, inv _ _ _ rfl rfl⟩⟩⟩⟩⟩⟩⟩⟩
      | _ => simp [eqOk] at ho
  · have : line = [] := by cases line <;> simp at h ⊢
    subst this
    have e : f = kgo (szD d) [d] := by simpa [szs, kgo] using hk
    unfold kindsD at hQ
    rw [← e] at hQ
    exact ⟨rfl, hQ⟩
theorem len_law_says : ∀ da ds Q er, sp_law_says mg da ds Q er → ds.length = 2 := fun _ _ _ _ ⟨_, e, _⟩ => by rw [e]; rfl
theorem kindS_ok (d : D) : PyData.strOk (kindS d) = true := by
  have h1 : PyData.strOk "None" = true := by decide +kernel
  have h2 : PyData.strOk "True" = true := by decide +kernel
  have h3 : PyData.strOk "False" = true := by decide +kernel
  have h4 : PyData.strOk "number" = true := by decide +kernel
  have h5 : PyData.strOk "string" = true := by decide +kernel
  have h6 : PyData.strOk "list" = true := by decide +kernel
  have h7 : PyData.strOk "tuple" = true := by decide +kernel
  cases d with
  | bl b => cases b <;> assumption
  | _ => assumption
theorem kgo_ok : ∀ (n : Nat) (l : List D), eqOks 0 (kgo n l) = true
  | 0, _ => by simp [kgo, eqOks]
  | n + 1, l => by
    rw [kgo]
    cases l.getLast? with
    | none => simp [eqOks]
    | some d => simp [eqOks, eqOk, kindS_ok, kgo_ok n]
theorem kinds_ok (d : D) : eqOk 1 (kindsD d) = true := by unfold kindsD; rw [eqOk]; exact kgo_ok _ _
theorem hp_law_says : ∀ da ds Q er, sp_law_says mg da ds Q er → p_law_says mg da { nx := fun _ => Q .non, rt := Q, er := er } (startP 2 ds) := by
  rintro da ds Q er ⟨d, rfl, hd, hsz, hQ⟩
  refine ⟨d, rfl, hd, hsz, d, rfl, hd, hsz, trivial, eqOk_le (by decide) (kinds_ok d), eqOk_le (by decide) (kinds_ok d), true, ?_, if_t rfl ⟨trivial, eqOk_le (by decide) hd, eqOk_le (by decide) hd, ?_⟩⟩
  · show RV.v (.bl (eqD (kindsD d) (kindsD d))) = _
    rw [eqD_self (kinds_ok d)]
  · show Q (.bl (eqD d d))
    rw [eqD_self hd]
    exact hQ
theorem len_law_is_number : ∀ da ds Q er, sp_law_is_number mg da ds Q er → ds.length = 1 := fun _ _ _ _ ⟨_, e, _⟩ => by rw [e]; rfl
theorem hp_law_is_number : ∀ da ds Q er, sp_law_is_number mg da ds Q er → p_law_is_number mg da { nx := fun _ => Q .non, rt := Q, er := er } (startP 1 ds) := hp_is_whole mg
theorem len_law_odd : ∀ da ds Q er, sp_law_odd mg da ds Q er → ds.length = 1 := fun _ _ _ _ ⟨_, _, e, _⟩ => by rw [e]; rfl
theorem hp_law_odd : ∀ da ds Q er, sp_law_odd mg da ds Q er → p_law_odd mg da { nx := fun _ => Q .non, rt := Q, er := er } (startP 1 ds) := by
  rintro da ds Q er ⟨a, ha, rfl, hQ⟩
  have z0 : 0 ≤ sizeLine := sizeL (by decide)
  have z1 : 1 ≤ sizeLine := sizeL (by decide)
  have z2 : 2 ≤ sizeLine := sizeL (by decide)
  exact ⟨z0, z0, z1, z2, z1, z1, z1, z1, z1, z1, z1, z2, z1, z1, z1, z1, z2, (show 17 ≤ sizeLine from sizeL (by decide)), a, oddL, ha, rfl, by decide, by decide, hQ⟩
theorem len_law_number : ∀ da ds Q er, sp_law_number mg da ds Q er → ds.length = 3 := fun _ _ _ _ ⟨_, _, _, _, e, _⟩ => by rw [e]; rfl
theorem hp_law_number : ∀ da ds Q er, sp_law_number mg da ds Q er → p_law_number mg da { nx := fun _ => Q .non, rt := Q, er := er } (startP 3 ds) := by
  rintro da ds Q er ⟨a, lo, hi, ha, rfl, hQ⟩
  have z0 : 0 ≤ sizeLine := sizeL (by decide)
  have z1 : 1 ≤ sizeLine := sizeL (by decide)
  exact ⟨trivial, trivial, trivial, z1, z0, (show 7 ≤ sizeLine from sizeL (by decide)), a, numL lo hi, ha, rfl, (by unfold numL; simp), (show 7 ≤ 1000 by decide), hQ⟩

/-! ### the law's own arithmetic -/
theorem len_law_trim : ∀ da ds Q er, sp_law_trim mg da ds Q er → ds.length = 1 := fun _ _ _ _ ⟨_, e, _⟩ => by rw [e]; rfl
theorem cut_but (xs : List D) (x : D) : cutD (xs ++ [x]) none (some (-1)) = xs := by
  unfold cutD HT.sIx
  simp
  rw [show (-1 + ((xs.length : Int) + 1)).toNat = xs.length by omega]
  simp
theorem hp_law_trim : ∀ da ds Q er, sp_law_trim mg da ds Q er → p_law_trim mg da { nx := fun _ => Q .non, rt := Q, er := er } (startP 3 ds) := by
  rintro da ds Q er ⟨l, rfl, hl, hQ⟩
  refine ⟨l.map D.int, rfl, (l.map D.int).length, rfl, ((l.map D.int).length : Nat), rfl, by rw [List.length_map]; omega, by rw [List.length_map]; omega, ?_⟩
  have fin : ∀ (f : List Int) (x : PV), trim f = f → trim f = trim l → (pRet (pUn oTuple (pVar 1))) { nx := fun _ => Q .non, rt := Q, er := er } [.val (lI l), .own (lI f), x] := fun f x h1 h2 => by
    rw [← h2, h1] at hQ
    exact hQ
  refine runFor_inv (fun i ps => ∃ (f : List Int) (x : PV), ps = [.val (lI l), .own (lI f), x] ∧ trim f = trim l ∧ f.length + i = l.length) (rgD 0 (((l.map D.int).length : Nat) : Int).toNat) 0 _ ⟨l, .no, rfl, rfl, rfl⟩ (fun i d ps K e hI hK => ?_) fun ps hI => ?_
  · obtain ⟨f, x, rfl, hf, hlen⟩ := hI
    rw [Nat.zero_add] at hK hlen
    refine ⟨(show 0 ≤ sizeLine from sizeL (by decide)), rfl, eqOk_lI 63 f, by rfl, eqD (lI f) (lI []), rfl, ?_⟩
    rw [eqD_lI]
    refine ite_b (fun h => ?_) fun h => ?_
    · have h := of_decide_eq_true h
      subst h
      exact fin [] (.val d) rfl hf
    · have h := of_decide_eq_false h
      rcases List.eq_nil_or_concat f with z | ⟨r, y, z⟩
      · exact absurd z h
      · rw [List.concat_eq_append] at z
        subst z
        refine ⟨rfl, (r ++ [y]).map D.int, .int y, rfl, by rw [List.map_append]; exact atI_last, trivial, by rfl, by rfl, !eqD (.int y) (.int 0), rfl, ?_⟩
        rw [eqD_int]
        refine ite_b (fun h2 => ?_) fun h2 => ?_
        · have h2 : y ≠ 0 := by simpa using h2
          exact fin (r ++ [y]) (.val d) (trim_nz r h2) hf
        · have h2 : y = 0 := by simpa using h2
          subst h2
          refine ⟨-1, rfl, rfl, ?_⟩
          refine hK _ ⟨r, .val d, ?_, by rw [← hf, trim_zero], by simp at hlen; omega⟩
          show [PV.val (lI l), PV.own (.lst (cutD ((r ++ [0]).map D.int) none (some (-1)))), .val d] = _
          rw [List.map_append, List.map_singleton, cut_but]; rfl
  · obtain ⟨f, x, rfl, hf, hlen⟩ := hI
    rw [Nat.zero_add, rgD_len, Int.toNat_natCast, List.length_map] at hlen
    have : f = [] := List.length_eq_zero_iff.mp (by omega)
    subst this
    exact fin [] x rfl hf
theorem len_law_plus : ∀ da ds Q er, sp_law_plus mg da ds Q er → ds.length = 2 := fun _ _ _ _ ⟨_, _, e, _⟩ => by rw [e]; rfl
theorem rgD_at {n i : Nat} {d : D} (h : (rgD 0 n)[i]? = some d) : i < n ∧ d = .int (i : Nat) := by
  unfold rgD at h
  rw [List.getElem?_map] at h
  by_cases hi : i < n
  · simp [hi] at h
    exact ⟨hi, h.symm⟩
  · simp [hi] at h
theorem hp_law_plus : ∀ da ds Q er, sp_law_plus mg da ds Q er → p_law_plus mg da { nx := fun _ => Q .non, rt := Q, er := er } (startP 4 ds) := by
  rintro da ds Q er ⟨a, b, rfl, ha, hb, hQ⟩
  refine ⟨(a.map D.int).length, rfl, (b.map D.int).length, rfl, trivial, trivial, ?_⟩
  have main : ∀ N : Int, N = (max a.length b.length : Nat) → (pRet (pCall da (sp_law_trim mg) (pCons (pLc (pRng1 (pCons (pVar 2) pNil)) (gN 3) pYes (pBin oAdd (pIf (pTest (pBin oLt (pVar 3) (pUn oLen (pVar 0)))) (pBin oIx (pVar 0) (pVar 3)) (pC (.int 0))) (pIf (pTest (pBin oLt (pVar 3) (pUn oLen (pVar 1)))) (pBin oIx (pVar 1) (pVar 3)) (pC (.int 0)))) [3]) pNil))) { nx := fun _ => Q .non, rt := Q, er := er } [.val (tI a), .val (tI b), .val (.int N), .no] := fun N hN => by
    subst hN
    refine ⟨((max a.length b.length : Nat) : Int), rfl, by omega, by omega, ?_⟩
    refine runLc_inv (fun i acc => acc = (List.range i).map fun i => D.int (a.getD i 0 + b.getD i 0)) [.val (tI a), .val (tI b), .val (.int (max a.length b.length : Nat)), .no] (rgD 0 (((max a.length b.length : Nat) : Int)).toNat) 0 [] rfl (fun i d acc K e hJ hK => ?_) fun acc hacc => ?_
    · obtain ⟨hi, rfl⟩ := rgD_at e
      rw [Nat.zero_add] at hJ
      have fin : ∀ x y : Int, x = a.getD i 0 → y = b.getD i 0 → acc.length < sizeLine ∧ K (acc ++ [D.int (x + y)]) [.val (tI a), .val (tI b), .val (.int (max a.length b.length : Nat)), .no] := fun x y hx hy => by
        refine ⟨by rw [hJ, List.length_map, List.length_range]; exact sizeLt (by omega), hK _ ?_⟩
        rw [Nat.zero_add, hJ, List.range_succ, List.map_append, List.map_singleton, hx, hy]
      have second : ∀ x : Int, x = a.getD i 0 → (pIf (pTest (pBin oLt (pVar 3) (pUn oLen (pVar 1)))) (pBin oIx (pVar 1) (pVar 3)) (pC (.int 0))) [.val (tI a), .val (tI b), .val (.int (max a.length b.length : Nat)), .val (.int (i : Nat))] (fun r ps => live (.v (.int x)) ps ∧ oAdd (.int x) r.d fun r => frz r ps fun dd ps4 => acc.length < sizeLine ∧ K (acc ++ [dd]) (pwipe ps4 [3])) noEr := fun x hx => by
        refine ⟨(b.map D.int).length, rfl, trivial, trivial, decide ((i : Int) < ((b.map D.int).length : Nat)), rfl, ite_b (fun h => ?_) fun h => ?_⟩
        · have h : i < b.length := by have := of_decide_eq_true h; simpa using this
          exact ⟨trivial, b.map D.int, .int (b.getD i 0), rfl, atI_nn (by omega) (by rw [Int.toNat_natCast]; exact getD_map b h), trivial, fin x _ hx rfl⟩
        · have h : b.length ≤ i := by have := of_decide_eq_false h; simp at this; omega
          exact ⟨trivial, fin x 0 hx (getD_out h).symm⟩
      refine ⟨(a.map D.int).length, rfl, trivial, trivial, decide ((i : Int) < ((a.map D.int).length : Nat)), rfl, ite_b (fun h => ?_) fun h => ?_⟩
      · have h : i < a.length := by have := of_decide_eq_true h; simpa using this
        exact ⟨trivial, a.map D.int, .int (a.getD i 0), rfl, atI_nn (by omega) (by rw [Int.toNat_natCast]; exact getD_map a h), second _ rfl⟩
      · have h : a.length ≤ i := by have := of_decide_eq_false h; simp at this; omega
        exact second 0 (getD_out h).symm
    · rw [Nat.zero_add, rgD_len, Int.toNat_natCast] at hacc
      subst hacc
      rw [range_map_ints]
      exact ⟨_, rfl, by simp; omega, hQ⟩
  refine main _ ?_
  rw [List.length_map, List.length_map]
  split <;> omega
end DL

set_option maxHeartbeats 4000000
namespace DL
open PySem PySem.Spec PyProof.Rows L2 LamX
variable (mg : Str → Option Value)
theorem len_law_product : ∀ da ds Q er, sp_law_product mg da ds Q er → ds.length = 2 := fun _ _ _ _ ⟨_, _, e, _⟩ => by rw [e]; rfl
/-- the places before j where b isn't 0 -/
def nzs (b : List Int) (j : Nat) : List Int := ((List.range j).filter fun i => !decide (b.getD i 0 = 0)).map fun i => ((i : Nat) : Int)
theorem nzs_succ (b : List Int) (j : Nat) : nzs b (j + 1) = if b.getD j 0 = 0 then nzs b j else nzs b j ++ [((j : Nat) : Int)] := by
  unfold nzs
  rw [List.range_succ, List.filter_append]
  by_cases h : b.getD j 0 = 0
  · rw [if_pos h]
    simp only [List.getD_eq_getElem?_getD] at h
    simp [h]
  · rw [if_neg h]
    simp only [List.getD_eq_getElem?_getD] at h
    simp [h]
theorem nzs_len (b : List Int) (j : Nat) : (nzs b j).length ≤ j := by
  unfold nzs
  rw [List.length_map]
  exact Nat.le_trans (List.length_filter_le _ _) (by simp)
theorem nzs_mem {b : List Int} {j : Nat} {z : Int} (h : z ∈ nzs b j) : 0 ≤ z ∧ z < j := by
  unfold nzs at h
  obtain ⟨i, hi, rfl⟩ := List.mem_map.mp h
  have := List.mem_range.mp (List.mem_filter.mp hi).1
  omega
/-- what of row i the places s give -/
def rowS (a b f : List Int) (i : Nat) (s : List Int) (k : Nat) : Int := f.getD k 0 + (if i ≤ k ∧ (((k - i : Nat) : Int)) ∈ s then a.getD i 0 * b.getD (k - i) 0 else 0)
theorem nzs_nodup (b : List Int) (j : Nat) : (nzs b j).Nodup := by
  unfold nzs
  refine List.Pairwise.map _ (fun x y h => ?_) (List.nodup_range.filter _)
  omega
theorem nzs_iff {b : List Int} {j i : Nat} : ((i : Nat) : Int) ∈ nzs b j ↔ i < j ∧ b.getD i 0 ≠ 0 := by
  unfold nzs
  constructor
  · intro h
    obtain ⟨x, hx, e⟩ := List.mem_map.mp h
    have : x = i := by omega
    subst this
    obtain ⟨h1, h2⟩ := List.mem_filter.mp hx
    exact ⟨List.mem_range.mp h1, by simpa using h2⟩
  · rintro ⟨h1, h2⟩
    exact List.mem_map.mpr ⟨i, List.mem_filter.mpr ⟨List.mem_range.mpr h1, by simpa using h2⟩, rfl⟩
theorem hp_law_product : ∀ da ds Q er, sp_law_product mg da ds Q er → p_law_product mg da { nx := fun _ => Q .non, rt := Q, er := er } (startP 8 ds) := by
  rintro da ds Q er ⟨a, b, rfl, ha, hb, ba, bb, hQ⟩
  obtain ⟨N, hN⟩ : ∃ N, N = (a.length + b.length : Nat) := ⟨_, rfl⟩
  refine ⟨(show 1 ≤ sizeLine from sizeL (by decide)), (a.map D.int).length, rfl, (b.map D.int).length, rfl, trivial, trivial, ?_⟩
  have eN : (((a.map D.int).length : Nat) : Int) + ((b.map D.int).length : Nat) = (N : Int) := by
    rw [List.length_map, List.length_map, hN]; omega
  have hN1 : N ≤ 800 := by omega
  change oMul (.lst [.int 0]) (.int ((_ : Int) + (_ : Int))) _
  rw [eN]
  have flat : (List.replicate N [D.int 0]).flatten = (List.replicate N (0 : Int)).map D.int := by
    clear eN hN hN1
    induction N with
    | zero => rfl
    | succ n ih => rw [List.replicate_succ, List.flatten_cons, ih, List.replicate_succ]; rfl
  refine ⟨by omega, by omega, by rw [Int.toNat_natCast]; show 1 * N ≤ sizeLine; exact sizeL (by omega), ?_⟩
  rw [Int.toNat_natCast, flat]
  refine ⟨tI b, b.map D.int, rfl, rfl, ?_⟩
  refine runLc_inv (fun i acc => acc = (nzs b i).map D.int) [.val (tI a), .val (tI b), .no, .no, .no, .no, .no, .no] (enD (b.map D.int)) 0 [] rfl (fun i d acc K e hJ hK => ?_) fun acc hacc => ?_
  · obtain ⟨y, ey, rfl⟩ := enD_int e
    rw [Nat.zero_add] at hJ hK
    have hi : i < b.length := (List.getElem?_eq_some_iff.mp ey).1
    have hy := getD_of? ey
    refine ⟨_, rfl, rfl, _, _, rfl, _, _, rfl, rfl, trivial, by rfl, by rfl, !eqD (.int y) (.int 0), rfl, ?_⟩
    rw [eqD_int]
    refine ite_b (fun h => ?_) fun h => ?_
    · have h : ¬ y = 0 := by simpa using h
      refine ⟨?_, hK _ ?_⟩
      · rw [hJ, List.length_map]; exact sizeLt (by have := nzs_len b i; omega)
      · rw [hJ, nzs_succ, if_neg (by rw [hy]; exact h), List.map_append]; rfl
    · have h : y = 0 := by simpa using h
      refine hK _ ?_
      rw [hJ, nzs_succ, if_pos (by rw [hy]; exact h)]
  rw [Nat.zero_add, enD_len, List.length_map] at hacc
  subst hacc
  -- the outer loop
  refine ⟨tI a, a.map D.int, rfl, rfl, ?_⟩
  refine runFor_inv (fun i ps => ∃ (f : List Int) (s x1 x2 x3 x4 : PV), ps = [.val (tI a), .val (tI b), .own (lI f), s, x1, x2, x3, x4] ∧ (s = .own (lI (nzs b b.length)) ∨ s = .val (lI (nzs b b.length))) ∧ f.length = N ∧ ∀ k, f.getD k 0 = cvn a b i k) (enD (a.map D.int)) 0 _ ⟨List.replicate N 0, _, _, _, _, _, rfl, .inl rfl, by simp, fun k => ?_⟩ (fun i d ps K e hI hK => ?_) fun ps hI => ?_
  · rw [List.getD_eq_getElem?_getD, List.getElem?_replicate]
    show (if k < N then some 0 else none).getD 0 = 0
    split <;> rfl
  · obtain ⟨x, ex, rfl⟩ := enD_int e
    obtain ⟨f, s, x1, x2, x3, x4, rfl, hs, hf, hc⟩ := hI
    rw [Nat.zero_add] at hc hK
    have hi : i < a.length := (List.getElem?_eq_some_iff.mp ex).1
    have hx := getD_of? ex
    refine ⟨_, rfl, rfl, _, _, rfl, _, _, rfl, rfl, ?_⟩
    refine ⟨trivial, by rfl, by rfl, !eqD (.int x) (.int 0), rfl, ite_b (fun h => ?_) fun h => ?_⟩
    · have inner : runFor (gN 6) (pSetIx 2 (pBin oAdd (pBin oIx (pVar 2) (pBin oAdd (pVar 4) (pVar 6))) (pBin oMul (pVar 5) (pBin oIx (pVar 1) (pVar 6)))) (pBin oAdd (pVar 4) (pVar 6))) { nx := K, ct := K, rt := Q, er := er, bk := pRet (pCall da (sp_law_trim mg) (pCons (pVar 2) pNil)) { nx := fun _ => Q .non, rt := Q, er := er } } ((nzs b b.length).map D.int) [.val (tI a), .val (tI b), .own (lI f), .val (lI (nzs b b.length)), .val (.int (i : Nat)), .val (.int x), x3, x4] := by
        refine runFor_inv (fun j ps => ∃ (g : List Int) (x3 : PV), ps = [.val (tI a), .val (tI b), .own (lI g), .val (lI (nzs b b.length)), .val (.int (i : Nat)), .val (.int x), x3, x4] ∧ g.length = N ∧ ∀ k, g.getD k 0 = rowS a b f i ((nzs b b.length).take j) k) ((nzs b b.length).map D.int) 0 _ ⟨f, x3, rfl, hf, fun k => ?_⟩ (fun j d ps K2 e2 hI2 hK2 => ?_) fun ps hI2 => ?_
        · unfold rowS
          simp
        · obtain ⟨g, x3, rfl, hg, hr⟩ := hI2
          rw [Nat.zero_add] at hr hK2
          rw [List.getElem?_map] at e2
          cases q : (nzs b b.length)[j]? with
          | none => rw [q] at e2; cases e2
          | some z =>
            rw [q] at e2
            have e2 := (Option.some.inj e2).symm
            subst e2
            obtain ⟨z0, z1⟩ := nzs_mem (List.mem_of_getElem? q)
            obtain ⟨t, rfl⟩ : ∃ t : Nat, z = t := ⟨z.toNat, by omega⟩
            have ht : t < b.length := by omega
            have hij : i + t < N := by omega
            have notin : ((t : Nat) : Int) ∉ (nzs b b.length).take j := fun hm => by
              have nd := nzs_nodup b b.length
              rw [← List.take_append_drop j (nzs b b.length)] at nd
              exact (List.nodup_append.mp nd).2.2 _ hm _ (by rw [drop_get q]; exact List.mem_cons_self) rfl
            have bx : x.natAbs ≤ 2 ^ 10000 := by rw [← hx]; exact ba.getD i
            refine ⟨trivial, rfl, g.map D.int, .int (g.getD (i + t) 0), rfl, ?_, trivial, b.map D.int, .int (b.getD t 0), rfl, atI_nn (by omega) (by rw [Int.toNat_natCast]; exact getD_map b ht), trivial, cmulB_of bx (bb.getD t) (by decide), trivial, ⟨_, rfl⟩, trivial, g.map D.int, (i : Int) + (t : Nat), i + t, rfl, rfl, ?_, ?_⟩
            · have := int_at g (i := (i : Int) + (t : Nat)) (by omega) (by omega)
              rw [show ((i : Int) + (t : Nat)).toNat = i + t by omega] at this
              exact this
            · have := ixN_nn (n := (g.map D.int).length) (i := (i : Int) + (t : Nat)) (by omega) (by rw [List.length_map]; omega)
              rw [show ((i : Int) + (t : Nat)).toNat = i + t by omega] at this
              exact this
            · refine hK2 _ ⟨g.set (i + t) (g.getD (i + t) 0 + x * b.getD t 0), .val (.int (t : Nat)), ?_, by rw [List.length_set]; exact hg, fun k => ?_⟩
              · show [PV.val (tI a), PV.val (tI b), PV.own (.lst ((g.map D.int).set (i + t) (.int (g.getD (i + t) 0 + x * b.getD t 0)))), _, _, _, _, _] = _
                rw [map_set_int]; rfl
              · have etake : (nzs b b.length).take (j + 1) = (nzs b b.length).take j ++ [((t : Nat) : Int)] := by rw [List.take_succ, q]; rfl
                rw [set_getD, etake]
                by_cases hk : i + t = k
                · subst hk
                  rw [if_pos ⟨rfl, by omega⟩, hr]
                  unfold rowS
                  rw [show i + t - i = t by omega, if_neg (fun z => notin z.2), if_pos ⟨by omega, by simp⟩, hx]
                  omega
                · rw [if_neg (fun z => hk z.1), hr]
                  unfold rowS
                  by_cases hk2 : i ≤ k ∧ (((k - i : Nat) : Int)) ∈ (nzs b b.length).take j
                  · rw [if_pos hk2, if_pos ⟨hk2.1, List.mem_append_left _ hk2.2⟩]
                  · rw [if_neg hk2, if_neg (fun z => ?_)]
                    rcases List.mem_append.mp z.2 with z2 | z2
                    · exact hk2 ⟨z.1, z2⟩
                    · simp at z2
                      have := z.1
                      omega
        · obtain ⟨g, x3, rfl, hg, hr⟩ := hI2
          refine hK _ ⟨g, _, _, _, x3, x4, rfl, .inr rfl, hg, fun k => ?_⟩
          rw [hr, Nat.zero_add, List.length_map, List.take_length]
          unfold rowS
          rw [hc, cvn_succ]
          congr 1
          by_cases hk : i ≤ k
          · rw [if_pos hk]
            by_cases hk2 : (((k - i : Nat) : Int)) ∈ nzs b b.length
            · rw [if_pos ⟨hk, hk2⟩]
            · rw [if_neg (fun z => hk2 z.2)]
              have : b.getD (k - i) 0 = 0 := by
                by_cases z : k - i < b.length
                · by_cases z2 : b.getD (k - i) 0 = 0
                  · exact z2
                  · exact absurd (nzs_iff.mpr ⟨z, z2⟩) hk2
                · exact getD_out (by omega)
              rw [this, Int.mul_zero]
          · rw [if_neg hk, if_neg (fun z => hk z.1)]
      rcases hs with hs | hs
      · subst hs
        exact ⟨rfl, _, rfl, inner⟩
      · subst hs
        exact ⟨_, rfl, inner⟩
    · rw [eqD_int] at h
      have h : x = 0 := by simpa using h
      refine hK _ ⟨f, s, _, _, _, _, rfl, hs, hf, fun k => ?_⟩
      rw [cvn_succ, hc, hx, h, Int.zero_mul]
      split <;> omega
  · obtain ⟨f, s, x1, x2, x3, x4, rfl, hs, hf, hc⟩ := hI
    rw [Nat.zero_add, enD_len, List.length_map] at hc
    refine ⟨rfl, f, rfl, by omega, ?_⟩
    have : trim f = trim (mulL a b) := trim_ext fun k => by rw [hc, mulL_getD]; rfl
    rw [this]
    exact hQ
end DL

set_option maxHeartbeats 4000000
namespace DL
open PySem PySem.Spec PyProof.Rows L2 LamX
variable (mg : Str → Option Value)
theorem len_law_poly : ∀ da ds Q er, sp_law_poly mg da ds Q er → ds.length = 2 := fun _ _ _ _ ⟨_, _, e, _⟩ => by rw [e]; rfl
theorem hp_law_poly : ∀ da ds Q er, sp_law_poly mg da ds Q er → p_law_poly mg da { nx := fun _ => Q .non, rt := Q, er := er } (startP 4 ds) := by
  rintro da ds Q er ⟨a, ha, rfl, hQ⟩
  refine ⟨trivial, ⟨by decide, by decide, by decide⟩, (show 3 ≤ sizeLine from sizeL (by decide)), a, [.int 2, .int 5, .int (10 ^ 20)], ha, rfl, by simp, by decide, fun x hx => ?_⟩
  obtain ⟨g, rfl, g0, g1⟩ : ∃ g : Int, x = .int g ∧ 2 ≤ g ∧ g ≤ 10 ^ 20 := by
    rcases List.mem_cons.mp hx with z | hx
    · exact ⟨2, z, by decide, by decide⟩
    rcases List.mem_cons.mp hx with z | hx
    · exact ⟨5, z, by decide, by decide⟩
    rcases List.mem_cons.mp hx with z | hx
    · exact ⟨10 ^ 20, z, by decide, by decide⟩
    · cases hx
  have b200 : (2 : Int) * 10 ^ 20 + 1 < 2 ^ 200 := by decide
  refine ⟨trivial, a, 9, ha, rfl, by decide +kernel, fun n n0 n1 => ⟨n, rfl, by omega, by omega, ?_⟩⟩
  refine runLc_inv (fun i acc => ∃ l : List Int, acc = l.map D.int ∧ l.length = i ∧ Bd l (10 ^ 20)) [.val (.ref a), .val (.int 8), .val (.int g), .no] (rgD 0 n.toNat) 0 [] ⟨[], rfl, rfl, fun x hx => by cases hx⟩ (fun i d acc K e hJ hK => ?_) fun acc hacc => ?_
  · obtain ⟨hi, rfl⟩ := rgD_at e
    obtain ⟨l, rfl, hl, hb⟩ := hJ
    rw [Nat.zero_add] at hl
    have b70 : g.natAbs ≤ 2 ^ 70 := by
      have : (10 : Int) ^ 20 ≤ 2 ^ 70 := by decide
      omega
    refine ⟨trivial, cmulB_of (j := 2) (k := 70) (by decide) b70 (by decide), trivial, a, 2 * g + 1, ha, rfl, log200 (by omega) (by omega), fun v v0 v1 => ⟨trivial, trivial, ?_, hK _ ⟨l ++ [v - g], ?_, ?_, ?_⟩⟩⟩
    · rw [List.length_map]; exact sizeLt (by omega)
    · rw [List.map_append]; rfl
    · rw [List.length_append, List.length_singleton]; omega
    · intro x hx
      rcases List.mem_append.mp hx with z | z
      · exact hb x z
      · simp at z
        subst z
        omega
  · obtain ⟨l, rfl, hl, hb⟩ := hacc
    rw [Nat.zero_add, rgD_len] at hl
    refine ⟨l, rfl, by omega, hQ _ (trim_trim l) ?_ hb.trim⟩
    have := trim_len l
    omega
theorem len_law_is_poly : ∀ da ds Q er, sp_law_is_poly mg da ds Q er → ds.length = 1 := fun _ _ _ _ ⟨_, e, _⟩ => by rw [e]; rfl
theorem eqOks_filter {n : Nat} {f : D → Bool} : ∀ {l : List D}, eqOks n l = true → eqOks n (l.filter f) = true
  | [], _ => by simp [eqOks]
  | d :: r, h => by
    simp only [eqOks, Bool.and_eq_true] at h
    rw [List.filter_cons]
    split
    · simp [eqOks, h.1, eqOks_filter h.2]
    · exact eqOks_filter h.2
theorem hp_law_is_poly : ∀ da ds Q er, sp_law_is_poly mg da ds Q er → p_law_is_poly mg da { nx := fun _ => Q .non, rt := Q, er := er } (startP 2 ds) := by
  rintro da ds Q er ⟨d, rfl, hd, hQ⟩
  have hdt := okP_dt hd
  refine ⟨trivial, .tuple, _, rfl, isi_tup hdt, _, rfl, ?_⟩
  cases d with
  | tup l =>
    have hl : eqOks 49 l = true := by
      rcases hd with h | h
      · rw [eqOk] at h; exact h
      · cases h
    refine ite_b (fun h => by cases h) fun _ => ?_
    refine ⟨l.length, rfl, trivial, trivial, decide (200 < (l.length : Int)), rfl, ite_b (fun h => ?_) fun h => ?_⟩
    · have h := of_decide_eq_true h
      have : isPolyB (.tup l) = false := by
        have z : ¬ l.length ≤ 200 := by omega
        simp [isPolyB, z]
      rw [this] at hQ; exact hQ
    · have h := of_decide_eq_false h
      refine ⟨l, rfl, ?_⟩
      refine runLc_inv (fun i acc => acc = (l.take i).filter fun x => !isW x) [.val (.tup l), .no] l 0 [] rfl (fun i x acc K e hJ hK => ?_) fun acc hacc => ?_
      · have hx : dtD x = true := okP_dt (.inl (eqOk_le (by decide) (eqOks_mem hl x (List.mem_of_getElem? e))))
        rw [Nat.zero_add] at hJ hK
        refine ⟨x, rfl, hx, isW x, rfl, ite_b (fun h2 => ⟨?_, hK _ ?_⟩) fun h2 => hK _ ?_⟩
        · rw [hJ]
          have := List.length_filter_le (fun x => !isW x) (l.take i)
          rw [List.length_take] at this
          exact sizeLt (by omega)
        · rw [hJ, List.take_succ, e, List.filter_append]
          simp at h2
          simp [RV.d, h2]
        · rw [hJ, List.take_succ, e, List.filter_append]
          simp at h2
          simp [h2]
      · rw [Nat.zero_add, List.take_length] at hacc
        subst hacc
        refine ⟨(show 0 ≤ sizeLine from sizeL (by decide)), trivial, by show eqOk 64 (.lst _) = true; rw [eqOk]; exact eqOks_le (by decide) (eqOks_filter hl), by rfl, !eqD (.lst (l.filter fun x => !isW x)) (.lst []), rfl, ?_⟩
        rw [eqD_nil]
        have goodD : isPolyB (.tup l) = (l.all isW && lastNZ l) := by
          have z : l.length ≤ 200 := by omega
          simp [isPolyB, z]
        have hem : (l.filter fun x => !isW x).isEmpty = l.all isW := by
          rw [Bool.eq_iff_iff, List.isEmpty_iff, List.filter_eq_nil_iff, List.all_eq_true]
          simp
        rw [hem]
        refine ite_b (fun h2 => ?_) fun h2 => ?_
        · have h2 : l.all isW = false := by simpa using h2
          rw [goodD, h2] at hQ
          exact hQ
        · have h2 : l.all isW = true := by simpa using h2
          rw [goodD, h2, Bool.true_and] at hQ
          refine ⟨(show 0 ≤ sizeLine from sizeL (by decide)), trivial, eqOk_le (show 50 ≤ 64 by decide) (by show eqOk 50 (.tup l) = true; rw [eqOk]; exact hl), by rfl, ?_⟩
          obtain ⟨m, rfl⟩ := ints_of_all h2
          refine ⟨eqD (tI m) (tI []), rfl, ?_⟩
          rw [eqD_tI]
          refine ite_b (fun h3 => ?_) fun h3 => ?_
          · have h3 := of_decide_eq_true h3
            subst h3
            exact hQ
          · have h3 := of_decide_eq_false h3
            rcases List.eq_nil_or_concat m with z | ⟨m', x, z⟩
            · exact absurd z h3
            · rw [List.concat_eq_append] at z
              subst z
              refine ⟨trivial, (m' ++ [x]).map D.int, .int x, rfl, by rw [List.map_append]; exact atI_last, trivial, by rfl, by rfl, ?_⟩
              have : eqD (.int x) (.int 0) = isZ (.int x) := eqD_int x 0
              show Q (.bl (!eqD (.int x) (.int 0)))
              rw [this]
              have e2 : lastNZ ((m' ++ [x]).map D.int) = !isZ (.int x) := by simp [lastNZ]
              rw [e2] at hQ
              exact hQ
  | _ => exact hQ
end DL

set_option maxHeartbeats 8000000
namespace DL
open PySem PySem.Spec PyProof.Rows L2 LamX
variable (mg : Str → Option Value)
theorem szs_ints (l : List Int) : szs (l.map D.int) = l.length := by
  induction l with
  | nil => simp [szs]
  | cons x r ih => rw [List.map_cons, szs, ih, List.length_cons]; simp [szD]; omega
theorem sz_tI (l : List Int) : szD (tI l) = 1 + l.length := by unfold tI; simp [szD, szs_ints]
theorem sz_lI (l : List Int) : szD (lI l) = 1 + l.length := by unfold lI; simp [szD, szs_ints]
theorem okP_tI (l : List Int) : okP (tI l) := .inl (eqOk_tI 49 l)
theorem filter_head {f : Int → Bool} (l : List Int) (x : Int) (h : l.find? f = some x) : atI ((l.filter f).map D.int ++ [.non]) 0 = some (.int x) := by
  have := List.head?_filter (l := l) (p := f)
  rw [h] at this
  cases q : l.filter f with
  | nil => rw [q] at this; cases this
  | cons y r =>
    rw [q] at this
    cases this
    exact atI_nn (by decide) rfl
theorem fst_head {a b : List Int} (ta : trim a = a) (tb : trim b = b) (la : a.length ≤ 12) (lb : b.length ≤ 12) : atI ((prims.filter fun p => !decide (evalL a p = evalL b p)).map D.int ++ [.non]) 0 = some (fstD a b) := by
  unfold fstD
  by_cases h : a = b
  · rw [if_pos h]
    subst h
    have : (prims.filter fun p => !decide (evalL a p = evalL a p)) = [] := by simp
    rw [this]; rfl
  · rw [if_neg h]
    cases q : prims.find? fun p => !decide (evalL a p = evalL b p) with
    | none =>
      rw [List.find?_eq_none] at q
      exact absurd (parts ta tb la lb fun p hp => by simpa using q p hp) h
    | some x => exact filter_head _ _ q
theorem fst_ok (a b : List Int) : eqOk 40 (fstD a b) = true ∧ szD (fstD a b) ≤ 10 := by
  unfold fstD
  split <;> simp [eqOk, szD]
theorem bd_mul {a b : List Int} {A B k : Nat} (ha : Bd a (2 ^ A)) (hb : Bd b (2 ^ B)) (hl : a.length ≤ 2 ^ k) : Bd (mulL a b) (2 ^ (k + A + B)) := (mulL_bd ha hb).mono (by
  rw [Nat.pow_add, Nat.pow_add, Nat.mul_assoc]
  exact Nat.mul_le_mul_right _ hl)
theorem bd_add {a b : List Int} {A : Nat} (ha : Bd a (2 ^ A)) (hb : Bd b (2 ^ A)) : Bd (addL a b) (2 ^ (A + 1)) := (addL_bd ha hb).mono (by rw [Nat.pow_succ]; omega)
/-- a good one among the drawn -/
structure Good (l : List Int) : Prop where
  t : trim l = l
  n : l.length ≤ 12
  b : Bd l (2 ^ 100)
theorem good_trim {l : List Int} (n : l.length ≤ 12) (b : Bd l (2 ^ 100)) : Good (trim l) := ⟨trim_trim l, Nat.le_trans (trim_len l) n, b.trim⟩
theorem Good.p {l : List Int} (g : Good l) : isPolyB (tI l) = true := poly_of (Nat.le_trans g.n (by decide)) g.t
theorem Good.bk {l : List Int} (g : Good l) : Bd l (2 ^ 1000) := g.b.mono (Nat.pow_le_pow_right (by decide) (by decide))
theorem Good.bx {l : List Int} (g : Good l) : Bd l (2 ^ 10000) := g.b.mono (Nat.pow_le_pow_right (by decide) (by decide))
theorem len_law_right : ∀ da ds Q er, sp_law_right mg da ds Q er → ds.length = 1 := fun _ _ _ _ ⟨_, _, e, _⟩ => by rw [e]; rfl
theorem hp_law_right : ∀ da ds Q er, sp_law_right mg da ds Q er → p_law_right mg da { nx := fun _ => Q .non, rt := Q, er := er } (startP 15 ds) := by
  rintro da ds Q er ⟨a, ha, rfl, hQ⟩
  refine ⟨a, ha, rfl, fun one t_one l8_one b20_one => ⟨a, ha, rfl, fun other t_other l8_other b20_other => ⟨(show 2 ≤ sizeLine from sizeL (by decide)), _, rfl, rfl, _, _, rfl, _, _, rfl, rfl, ?_⟩⟩⟩
  have g_one : Good one := ⟨t_one, by omega, b20_one.mono (by decide)⟩
  have l12_one := g_one.n
  have bd_one := g_one.b
  have bk_one := g_one.bk
  have bx_one := g_one.bx
  have pb_one := g_one.p
  have ok_one := okP_tI one
  have ln_one : one.length ≤ 400 := by omega
  have lm_one : one.length ≤ 1000 := by omega
  have g_other : Good other := ⟨t_other, by omega, b20_other.mono (by decide)⟩
  have l12_other := g_other.n
  have bd_other := g_other.b
  have bk_other := g_other.bk
  have bx_other := g_other.bx
  have pb_other := g_other.p
  have ok_other := okP_tI other
  have ln_other : other.length ≤ 400 := by omega
  have lm_other : other.length ≤ 1000 := by omega
  refine ⟨trivial, ⟨by decide, by decide, by decide⟩, a, 10 ^ 12, ha, rfl, by decide +kernel, fun v v0 v1 => ⟨trivial, ⟨by decide, by decide, by decide⟩, trivial, trivial, (show 5 ≤ sizeLine from sizeL (by decide)), a, [.int 0, .int 1, .int (-1), .int 2, .int (v - 10 ^ 6)], ha, rfl, by simp, (show 5 ≤ 1000 by decide), fun x hx => ?_⟩⟩
  obtain ⟨val, rfl, hv⟩ : ∃ val : Int, x = .int val ∧ val.natAbs < 2 ^ 1000 := by
    have big : (10 : Int) ^ 13 < 2 ^ 1000 := by decide
    have z0 : ∀ i : Int, -10 ^ 13 ≤ i → i ≤ 10 ^ 13 → i.natAbs < 2 ^ 1000 := fun i h1 h2 => by
      have : (10 : Nat) ^ 13 < 2 ^ 1000 := by decide
      omega
    rcases List.mem_cons.mp hx with e | hx
    · exact ⟨0, e, z0 _ (by decide) (by decide)⟩
    rcases List.mem_cons.mp hx with e | hx
    · exact ⟨1, e, z0 _ (by decide) (by decide)⟩
    rcases List.mem_cons.mp hx with e | hx
    · exact ⟨-1, e, z0 _ (by decide) (by decide)⟩
    rcases List.mem_cons.mp hx with e | hx
    · exact ⟨2, e, z0 _ (by decide) (by decide)⟩
    rcases List.mem_cons.mp hx with e | hx
    · exact ⟨v - 10 ^ 6, e, z0 _ (by omega) (by omega)⟩
    · cases hx
  refine ⟨a, 13, ha, rfl, by decide +kernel, fun m m0 m1 => ?_⟩
  have m12 : m ≤ 12 := by omega
  have inm : inB (.int m) 0 12 = true := by simp [inB, m0, m12]
  refine ⟨(show 1 ≤ sizeLine from sizeL (by decide)), m, rfl, by omega, by omega, ?_⟩
  refine runFor_inv (fun i ps => ∃ (x1 : PV), ps = [.val (.ref a), .val (tI one), .val (tI other), .val (.int val), .val (.int m), .val (tI (powL one i)), x1, .no, .no, .no, .no, .no, .no, .no, .no]) (rgD 0 m.toNat) 0 _ ⟨.no, rfl⟩ (fun i d ps K e hI hK => ?_) fun ps hI => ?_
  · obtain ⟨x1, rfl⟩ := hI
    rw [Nat.zero_add] at hK ⊢
    obtain ⟨hi, rfl⟩ := rgD_at e
    obtain ⟨h1, h2⟩ := powL_bd l12_one bd_one i (by omega)
    exact ⟨powL one i, one, rfl, by omega, by omega, h2.mono (Nat.pow_le_pow_right (by decide) (by omega)), bx_one, hK _ ⟨_, rfl⟩⟩
  obtain ⟨x6, rfl⟩ := hI
  rw [Nat.zero_add, rgD_len]
  -- told
  refine ⟨tI one, .int val, rfl, ok_one, fun h => Bool.noConfusion (pb_one.symm.trans h), fun _ => ⟨rfl, fun h => Bool.noConfusion (show true = false from h), fun _ => ⟨one, val, rfl, rfl, ln_one, bk_one, hv, ⟨rfl, ⟨tI one, .int val, rfl, ok_one, fun h => Bool.noConfusion (pb_one.symm.trans h), fun _ => ⟨rfl, fun h => Bool.noConfusion (show true = false from h), fun _ => ⟨one, val, rfl, rfl, ln_one, bk_one, hv, ⟨tI one, tI other, rfl, ok_one, fun h => Bool.noConfusion (pb_one.symm.trans h), fun _ => ⟨ok_other, fun h => Bool.noConfusion (pb_other.symm.trans h), fun _ => ⟨one, other, rfl, rfl, lm_one, lm_other, ⟨rfl, ⟨tI one, tI other, rfl, ok_one, fun h => Bool.noConfusion (pb_one.symm.trans h), fun _ => ⟨ok_other, fun h => Bool.noConfusion (pb_other.symm.trans h), fun _ => ⟨one, other, rfl, rfl, lm_one, lm_other, ⟨tI one, tI other, rfl, ok_one, fun h => Bool.noConfusion (pb_one.symm.trans h), fun _ => ⟨ok_other, fun h => Bool.noConfusion (pb_other.symm.trans h), fun _ => ⟨one, other, rfl, rfl, ln_one, ln_other, bx_one, bx_other, ⟨rfl, ⟨tI one, tI other, rfl, ok_one, fun h => Bool.noConfusion (pb_one.symm.trans h), fun _ => ⟨ok_other, fun h => Bool.noConfusion (pb_other.symm.trans h), fun _ => ⟨one, other, rfl, rfl, ln_one, ln_other, bx_one, bx_other, ⟨(show 6 ≤ sizeLine from sizeL (by decide)), ?_⟩⟩⟩⟩⟩⟩⟩⟩⟩⟩⟩⟩⟩⟩⟩⟩⟩⟩⟩⟩⟩⟩
  -- due
  refine ⟨one, val, rfl, ln_one, bk_one, hv, (show 1 ≤ sizeLine from sizeL (by decide)), trivial, by decide, by decide, (show 2 ≤ sizeLine from sizeL (by decide)), one, other, rfl, lm_one, lm_other, (show 1 ≤ sizeLine from sizeL (by decide)), trivial, by decide, by decide, (show 2 ≤ sizeLine from sizeL (by decide)), trivial, (show 4 ≤ sizeLine from sizeL (by decide)), one, other, rfl, ln_one, ln_other, bx_one, bx_other, (show 1 ≤ sizeLine from sizeL (by decide)), trivial, by decide, by decide, (show 2 ≤ sizeLine from sizeL (by decide)), trivial, (show 6 ≤ sizeLine from sizeL (by decide)), ?_⟩
  have lAdd : (trim (addL one other)).length ≤ 8 := Nat.le_trans (trim_len _) (by rw [addL_len]; omega)
  have lMul : (trim (mulL one other)).length ≤ 16 := Nat.le_trans (trim_len _) (by rw [mulL_len]; omega)
  have lPow : (powL one m.toNat).length ≤ 200 := by have := (powL_bd l12_one bd_one m.toNat (by omega)).1; omega
  refine ⟨rfl, rfl, .lst [.int (evalL one val), .int (evalL one val), tI (trim (addL one other)), tI (trim (addL one other)), tI (trim (mulL one other)), tI (trim (mulL one other))], rfl, by simp [eqOk, eqOks, eqOk_tI], by simp [szD, szs, sz_tI]; omega, true, rfl, if_f (by decide) ?_⟩
  refine ⟨tI one, .int m, rfl, ok_one, fun h => Bool.noConfusion (pb_one.symm.trans h), fun _ => ⟨rfl, fun h => Bool.noConfusion (inm.symm.trans h), fun _ => ⟨one, m, rfl, rfl, l12_one, bd_one, m0, m12, ⟨rfl, ⟨tI one, .int m, rfl, ok_one, fun h => Bool.noConfusion (pb_one.symm.trans h), fun _ => ⟨rfl, fun h => Bool.noConfusion (inm.symm.trans h), fun _ => ⟨one, m, rfl, rfl, l12_one, bd_one, m0, m12, ⟨(show 2 ≤ sizeLine from sizeL (by decide)), (show 2 ≤ sizeLine from sizeL (by decide)), .lst [tI (powL one m.toNat), tI (powL one m.toNat)], rfl, by simp [eqOk, eqOks, eqOk_tI], by simp [szD, szs, sz_tI]; omega, true, rfl, if_f (by decide) ?_⟩⟩⟩⟩⟩⟩⟩⟩
  -- late
  have sm : ∀ (l : List Int), Bd l (10 ^ 20) → Bd l (2 ^ 67) := fun l h => h.mono (by decide)
  have b3 : Bd [-3, 1] (2 ^ 2) := fun x hx => by
    simp at hx
    rcases hx with e | e <;> subst e <;> decide
  have b2 : Bd [-2, 1] (2 ^ 2) := fun x hx => by
    simp at hx
    rcases hx with e | e <;> subst e <;> decide
  have b5 : Bd [0, -5, 1] (2 ^ 67) := fun x hx => by
    simp at hx
    rcases hx with e | e | e <;> subst e <;> decide
  have bm1 := (bd_mul b3 (sm other b20_other) (k := 1) (by decide)).trim
  have lm1 : (trim (mulL [-3, 1] other)).length ≤ 10 := Nat.le_trans (trim_len _) (by rw [mulL_len]; simp; omega)
  have bm2 := (bd_mul b2 bm1 (k := 1) (by decide)).trim
  have lm2 : (trim (mulL [-2, 1] (trim (mulL [-3, 1] other)))).length ≤ 12 := Nat.le_trans (trim_len _) (by rw [mulL_len]; simp; omega)
  have up : ∀ {j k : Nat} {l : List Int}, Bd l (2 ^ j) → j ≤ k → Bd l (2 ^ k) := fun h hk => h.mono (Nat.pow_le_pow_right (by decide) hk)
  have g3 : Good (trim (addL one (trim (mulL [-2, 1] (trim (mulL [-3, 1] other)))))) := good_trim (by rw [addL_len]; omega) (up (bd_add (A := 80) (up (sm one b20_one) (by decide)) (up bm2 (by decide))) (by decide))
  have g4 : Good (trim (addL one [0, -5, 1])) := good_trim (by rw [addL_len]; simp; omega) (up (bd_add (sm one b20_one) b5) (by decide))
  refine ⟨(show 2 ≤ sizeLine from sizeL (by decide)), (show 2 ≤ sizeLine from sizeL (by decide)), [-3, 1], other, rfl, by decide, ln_other, up b3 (by decide), bx_other, [-2, 1], trim (mulL [-3, 1] other), rfl, by decide, by omega, up b2 (by decide), up bm1 (by decide), one, trim (mulL [-2, 1] (trim (mulL [-3, 1] other))), rfl, lm_one, by omega, (show 3 ≤ sizeLine from sizeL (by decide)), one, [0, -5, 1], rfl, lm_one, by decide, (show 4 ≤ sizeLine from sizeL (by decide)), a, [tI one, tI other, tI (trim (addL one (trim (mulL [-2, 1] (trim (mulL [-3, 1] other)))))), tI (trim (addL one [0, -5, 1]))], ha, rfl, by simp, (show 4 ≤ 1000 by decide), fun x hx => ?_⟩
  obtain ⟨late, rfl, g_late⟩ : ∃ late, x = tI late ∧ Good late := by
    rcases List.mem_cons.mp hx with e | hx
    · exact ⟨_, e, g_one⟩
    rcases List.mem_cons.mp hx with e | hx
    · exact ⟨_, e, g_other⟩
    rcases List.mem_cons.mp hx with e | hx
    · exact ⟨_, e, g3⟩
    rcases List.mem_cons.mp hx with e | hx
    · exact ⟨_, e, g4⟩
    · cases hx
  clear hx bm1 lm1 bm2 lm2 g3 g4 b2 b3 b5 sm
  have t_late := g_late.t
  have l12_late := g_late.n
  have bk_late := g_late.bk
  have pb_late := g_late.p
  have ok_late := okP_tI late
  -- first
  refine ⟨(show 12 ≤ sizeLine from sizeL (by decide)), rfl, prims.map D.int, rfl, ?_⟩
  refine runLc_inv (fun i acc => acc = ((prims.take i).filter fun p => !decide (evalL one p = evalL late p)).map D.int) _ (prims.map D.int) 0 [] rfl (fun i d acc K e hJ hK => ?_) fun acc hacc => ?_
  · rw [List.getElem?_map] at e
    rw [Nat.zero_add] at hJ hK
    cases q : prims[i]? with
    | none => rw [q] at e; cases e
    | some p =>
      rw [q] at e
      have e := (Option.some.inj e).symm
      subst e
      have hi : i < prims.length := (List.getElem?_eq_some_iff.mp q).1
      have hp : p.natAbs < 2 ^ 1000 := by
        have := prim_small i hi
        rw [List.getD_eq_getElem?_getD, q] at this
        exact this
      have hacc : acc.length < sizeLine := by
        rw [hJ, List.length_map]
        have := List.length_filter_le (fun p => !decide (evalL one p = evalL late p)) (prims.take i)
        rw [List.length_take] at this
        have e : prims.length = 12 := rfl
        exact sizeLt (by omega)
      refine ⟨one, p, rfl, ln_one, bk_one, hp, late, p, rfl, by omega, bk_late, hp, trivial, by rfl, by rfl, !eqD (.int (evalL one p)) (.int (evalL late p)), rfl, ?_⟩
      rw [eqD_int]
      refine ite_b (fun h => ⟨hacc, hK _ ?_⟩) fun h => hK _ ?_
      · rw [hJ, List.take_succ, q, Option.toList_some, List.filter_append]; simp at h; simp [h, RV.d]
      · rw [hJ, List.take_succ, q, Option.toList_some, List.filter_append]; simp at h; simp [h]
  rw [Nat.zero_add, List.length_map, List.take_length] at hacc
  subst hacc
  obtain ⟨f1, f2⟩ := fst_ok one late
  refine ⟨(show 1 ≤ sizeLine from sizeL (by decide)), trivial, sizeL (by
    rw [List.length_map]
    have := List.length_filter_le (fun p => !decide (evalL one p = evalL late p)) prims
    have e : prims.length = 12 := rfl
    simp
    omega), trivial, _, fstD one late, rfl, fst_head t_one t_late l12_one l12_late, ?_⟩
  refine ⟨tI one, tI late, rfl, ok_one, fun h => Bool.noConfusion (pb_one.symm.trans h), fun _ => ⟨ok_late, fun h => Bool.noConfusion (pb_late.symm.trans h), fun _ => ⟨one, late, rfl, rfl, t_one, t_late, l12_one, l12_late, bk_one, bk_late, ⟨rfl, ⟨tI one, tI late, rfl, ok_one, fun h => Bool.noConfusion (pb_one.symm.trans h), fun _ => ⟨ok_late, fun h => Bool.noConfusion (pb_late.symm.trans h), fun _ => ⟨one, late, rfl, rfl, t_one, t_late, l12_one, l12_late, bk_one, bk_late, ⟨(show 2 ≤ sizeLine from sizeL (by decide)), (show 2 ≤ sizeLine from sizeL (by decide)), .lst [fstD one late, fstD one late], rfl, by simp [eqOk, eqOks, eqOk_le (show 40 ≤ 49 by decide) f1], by simp [szD, szs]; omega, true, rfl, if_f (by decide) ?_⟩⟩⟩⟩⟩⟩⟩⟩
  -- near ones
  have body : ∀ (odd : D), odd ∈ oddL → True := fun _ _ => trivial
  refine ⟨one.map D.int, rfl, (show 1 ≤ sizeLine from sizeL (by decide)), trivial, by rw [List.length_map]; exact sizeL (by simp; omega), (show 1 ≤ sizeLine from sizeL (by decide)), trivial, by rw [List.length_map]; exact sizeL (by simp; omega), (show 1 ≤ sizeLine from sizeL (by decide)), trivial, by rw [List.length_map]; exact sizeL (by simp; omega), (show 1 ≤ sizeLine from sizeL (by decide)), trivial, by simp, by decide, by decide, by decide, (show 1 ≤ sizeLine from sizeL (by decide)), trivial, by simp, by decide, by decide, by decide, (show 1 ≤ sizeLine from sizeL (by decide)), a, ha, rfl, fun odd hodd => ⟨(show 9 ≤ sizeLine from sizeL (by decide)), _, rfl, ?_⟩⟩
  have I49 : ∀ n (l : List Int), eqOks (n + 1) (l.map D.int) = true := fun n l => eqOks_ints _ l
  have okItems : ∀ x ∈ ([tI one, lI one, .tup (one.map D.int ++ [.int 0]), .tup (one.map D.int ++ [.bl true]), .tup (one.map D.int ++ [.non]), .tup (List.replicate (200 : Int).toNat [D.int 1]).flatten, .tup (List.replicate (201 : Int).toNat [D.int 1]).flatten, .tup [.int 0], odd] : List D), okP x := fun x hx => by
    have rep : ∀ n : Nat, eqOk 50 (.tup (List.replicate n [D.int 1]).flatten) = true := fun n => by
      rw [eqOk]
      induction n with
      | zero => simp [eqOks]
      | succ n ih => rw [List.replicate_succ, List.flatten_cons]; exact eqOks_append.mpr ⟨by simp [eqOks, eqOk], ih⟩
    rcases List.mem_cons.mp hx with e | hx
    · rw [e]; exact ok_one
    rcases List.mem_cons.mp hx with e | hx
    · rw [e]; exact .inl (eqOk_lI 49 one)
    rcases List.mem_cons.mp hx with e | hx
    · rw [e]; exact .inl (by rw [eqOk]; exact eqOks_append.mpr ⟨eqOks_ints _ _, by simp [eqOks, eqOk]⟩)
    rcases List.mem_cons.mp hx with e | hx
    · rw [e]; exact .inl (by rw [eqOk]; exact eqOks_append.mpr ⟨eqOks_ints _ _, by simp [eqOks, eqOk]⟩)
    rcases List.mem_cons.mp hx with e | hx
    · rw [e]; exact .inl (by rw [eqOk]; exact eqOks_append.mpr ⟨eqOks_ints _ _, by simp [eqOks, eqOk]⟩)
    rcases List.mem_cons.mp hx with e | hx
    · rw [e]; exact .inl (rep _)
    rcases List.mem_cons.mp hx with e | hx
    · rw [e]; exact .inl (rep _)
    rcases List.mem_cons.mp hx with e | hx
    · rw [e]; exact .inl (by simp [eqOks, eqOk])
    rcases List.mem_cons.mp hx with e | hx
    · rw [e]
      have s1 : PyData.strOk "2" = true := by decide +kernel
      have s2 : PyData.strOk "one" = true := by decide +kernel
      have s3 : PyData.strOk "x" = true := by decide +kernel
      simp only [oddL, List.mem_cons, List.not_mem_nil, or_false] at hodd
      rcases hodd with e | e | e | e | e | e | e | e | e | e | e | e | e | e | e | e | e <;> subst e <;> first | exact .inr rfl | exact .inl (by simp [eqOk, eqOks, s1, s2, s3])
    · cases hx
  refine runFor_inv (fun i ps => ∃ (x12 x13 : PV), ps = [.val (.ref a), .val (tI one), .val (tI other), .val (.int val), .val (.int m), .val (tI (powL one m.toNat)), x6, .val (.lst [.int (evalL one val), .int (evalL one val), tI (trim (addL one other)), tI (trim (addL one other)), tI (trim (mulL one other)), tI (trim (mulL one other))]), .val (.lst [.int (evalL one val), .int (evalL one val), tI (trim (addL one other)), tI (trim (addL one other)), tI (trim (mulL one other)), tI (trim (mulL one other))]), .val (tI late), .val (.lst (prims.map D.int)), .val (fstD one late), x12, x13, .no]) _ 0 _ ⟨.no, .no, rfl⟩ (fun i d ps K e hI hK => ?_) fun ps hI => ?_
  · obtain ⟨x12, x13, rfl⟩ := hI
    have hd := okItems d (List.mem_of_getElem? e)
    exact ⟨d, rfl, hd, d, rfl, hd, rfl, d, rfl, hd, (show 2 ≤ sizeLine from sizeL (by decide)), (show 2 ≤ sizeLine from sizeL (by decide)), .lst [.bl (isPolyB d), .bl (isPolyB d)], rfl, by simp [eqOk, eqOks], by simp [szD, szs], true, rfl, if_f (by decide) (hK _ ⟨_, _, rfl⟩)⟩
  · obtain ⟨x12, x13, rfl⟩ := hI
    exact hQ
end DL

set_option maxHeartbeats 8000000
namespace DL
open PySem PySem.Spec PyProof.Rows L2 LamX
theorem ref_same {mg : Str → Option Value} {x : Str} {C D : Addr} (h : mg x = some (.ref C)) (g : mg x = some (.ref D)) : C = D := Value.ref.inj (Option.some.inj (h.symm.trans g))
theorem runLc_yes {i : Nat} {e : PTE} {vs : List Nat} {Q : RV → List PV → Prop} {d : D} {r acc : List D} {ps : List PV} (h : e (ps.set i (.val d)) (fun rv ps3 => frz rv ps3 fun dd ps4 => acc.length < sizeLine ∧ runLc (gN i) pYes e vs Q r (acc ++ [dd]) (pwipe ps4 vs)) noEr) :
    runLc (gN i) pYes e vs Q (d :: r) acc ps := by
  exact if_t (c := true) (P := e (ps.set i (.val d)) (fun rv ps3 => frz rv ps3 fun dd ps4 => acc.length < sizeLine ∧ runLc (gN i) pYes e vs Q r (acc ++ [dd]) (pwipe ps4 vs)) noEr) (Q := runLc (gN i) pYes e vs Q r acc (pwipe (ps.set i (.val d)) vs)) rfl h
theorem hp_law (mg : Str → Option Value) (PL a : Addr) (ns : List Int) (hns : ScrB ns) : p_law mg PL ⟨some a, lawT PL⟩ lawEnds (lawStart 7 a ns) := by
  have hl := hns.1
  refine ⟨ns.length, rfl, trivial, trivial, trivial, _, rfl, by split <;> omega, by split <;> omega, ?_⟩
  refine runFor_inv (fun i ps => ∃ (x2 : PV), ps = [.val (.scr ns), .val (.ref a), x2, .no, .no, .no, .no]) _ 0 _ ⟨.no, rfl⟩ (fun i d ps K e hI hK => ?_) fun ps hI => ?_
  · obtain ⟨x2, rfl⟩ := hI
    exact ⟨a, rfl, rfl, true, rfl, if_f (by decide) (hK _ ⟨_, rfl⟩)⟩
  obtain ⟨x2, rfl⟩ := hI
  refine ⟨(show 1 ≤ sizeLine from sizeL (by decide)), (show 1 ≤ sizeLine from sizeL (by decide)), (show 2 ≤ sizeLine from sizeL (by decide)), (show 1 ≤ sizeLine from sizeL (by decide)), (show 1 ≤ sizeLine from sizeL (by decide)), trivial, by simp, by decide, by decide, by decide, (show 7 ≤ sizeLine from sizeL (by decide)), a, [.non, .tup [.int 0], .lst [.int 1], .tup [.int 1, .int 0], .tup [.bl true], .tup (List.replicate (201 : Int).toNat [D.int 1]).flatten, .str "1"], rfl, rfl, by simp, (show 7 ≤ 1000 by decide), fun x hx => ?_⟩
  have okx : okP x ∧ isPolyB x = false := by
    have rep : ∀ n : Nat, eqOk 50 (.tup (List.replicate n [D.int 1]).flatten) = true := fun n => by
      rw [eqOk]
      induction n with
      | zero => simp [eqOks]
      | succ n ih => rw [List.replicate_succ, List.flatten_cons]; exact eqOks_append.mpr ⟨by simp [eqOks, eqOk], ih⟩
    have s1 : PyData.strOk "1" = true := by decide +kernel
    simp only [List.mem_cons, List.not_mem_nil, or_false] at hx
    rcases hx with e | e | e | e | e | e | e <;> subst e
    · exact ⟨.inl (by simp [eqOk]), rfl⟩
    · exact ⟨.inl (by simp [eqOk, eqOks]), by decide +kernel⟩
    · exact ⟨.inl (by simp [eqOk, eqOks]), rfl⟩
    · exact ⟨.inl (by simp [eqOk, eqOks]), by decide +kernel⟩
    · exact ⟨.inl (by simp [eqOk, eqOks]), by decide +kernel⟩
    · exact ⟨.inl (rep _), by decide +kernel⟩
    · exact ⟨.inl (by simp [eqOk, s1]), rfl⟩
  clear hx
  obtain ⟨okx, npx⟩ := okx
  have ok1 : okP (.tup [.int 1]) := .inl (by simp [eqOk, eqOks])
  have p1 : isPolyB (.tup [.int 1]) = true := by decide +kernel
  -- errors
  intro f1 hf1 f2 hf2
  refine ⟨(show 2 ≤ sizeLine from sizeL (by decide)), _, rfl, runLc_yes ?_⟩
  refine ⟨⟨by simp [lawT], by simp [lawT]⟩, f1, rfl, ("poly_at", 2, sp_poly_at mg), by simp, hf1, x, .non, rfl, okx, fun _ => fun C0 hC0 => ⟨⟨"BadPoly", by simp [errN], hC0⟩, (show 0 < sizeLine from sizeLt (by decide)), runLc_yes ?_⟩, fun h => Bool.noConfusion (npx.symm.trans h)⟩
  refine ⟨⟨by simp [lawT], by simp [lawT]⟩, f2, rfl, ("poly_power", 2, sp_poly_power mg), by simp, hf2, x, .non, rfl, okx, fun _ => fun C1 hC1 => ⟨⟨"BadPoly", by simp [errN], hC1⟩, (show 1 < sizeLine from sizeLt (by decide)), ?_⟩, fun h => Bool.noConfusion (npx.symm.trans h)⟩
  refine ⟨⟨_, rfl⟩, ⟨by simp [lawT], by simp [lawT]⟩, (show 1 ≤ sizeLine from sizeL (by decide)), (show 3 ≤ sizeLine from sizeL (by decide)), a, [.non, .bl true, .str "1"], rfl, rfl, by simp, (show 3 ≤ 1000 by decide), fun y hy => ⟨.tup [.int 1], y, rfl, ok1, fun h => Bool.noConfusion (p1.symm.trans h), fun _ => ⟨?y1, fun _ => fun C2 hC2 => ⟨⟨"BadValue", by simp [errN], hC2⟩, _, rfl, (show 2 < sizeLine from sizeLt (by decide)), ?_⟩, ?y2⟩⟩⟩
  case y1 =>
    simp only [List.mem_cons, List.not_mem_nil, or_false] at hy
    rcases hy with e | e | e <;> subst e <;> rfl
  case y2 =>
    intro h
    simp only [List.mem_cons, List.not_mem_nil, or_false] at hy
    rcases hy with e | e | e <;> subst e <;> cases h
  refine ⟨⟨_, rfl⟩, ⟨by simp [lawT], by simp [lawT]⟩, x, .non, rfl, okx, fun _ => fun C3 hC3 => ⟨⟨"BadOne", by simp [errN], hC3⟩, _, rfl, (show 3 < sizeLine from sizeLt (by decide)), ?_⟩, fun h => Bool.noConfusion (npx.symm.trans h)⟩
  refine ⟨⟨_, rfl⟩, ⟨by simp [lawT], by simp [lawT]⟩, (show 1 ≤ sizeLine from sizeL (by decide)), .tup [.int 1], x, rfl, ok1, fun h => Bool.noConfusion (p1.symm.trans h), fun _ => ⟨okx, fun _ => fun C4 hC4 => ⟨⟨"BadOther", by simp [errN], hC4⟩, _, rfl, (show 4 < sizeLine from sizeLt (by decide)), ?_⟩, fun h => Bool.noConfusion (npx.symm.trans h)⟩⟩
  refine ⟨⟨_, rfl⟩, ⟨by simp [lawT], by simp [lawT]⟩, (show 1 ≤ sizeLine from sizeL (by decide)), a, 0, 12, rfl, rfl, fun y hy => ⟨.tup [.int 1], y, rfl, ok1, fun h => Bool.noConfusion (p1.symm.trans h), fun _ => ⟨?y3, fun _ => fun C5 hC5 => ⟨⟨"BadMany", by simp [errN], hC5⟩, _, rfl, (show 5 < sizeLine from sizeLt (by decide)), ?_⟩, ?y4⟩⟩⟩
  case y3 =>
    simp only [numL, List.mem_cons, List.not_mem_nil, or_false] at hy
    rcases hy with e | e | e | e | e | e | e <;> subst e <;> rfl
  case y4 =>
    intro h
    simp only [numL, List.mem_cons, List.not_mem_nil, or_false] at hy
    rcases hy with e | e | e | e | e | e | e <;> subst e <;> first | cases h | (exact absurd h (by decide))
  refine ⟨⟨_, rfl⟩, ⟨by simp [lawT], by simp [lawT]⟩, x, .non, rfl, okx, fun _ => fun C6 hC6 => ⟨⟨"BadOne", by simp [errN], hC6⟩, _, rfl, (show 6 < sizeLine from sizeLt (by decide)), ?_⟩, fun h => Bool.noConfusion (npx.symm.trans h)⟩
  refine ⟨rfl, _, _, rfl, rfl, fun D0 g0 => ⟨trivial, _, D0, rfl, rfl, ref_same hC0 g0, g0, ⟨rfl, _, _, rfl, rfl, fun D1 g1 => ⟨trivial, _, D1, rfl, rfl, ref_same hC1 g1, g1, ⟨rfl, _, _, rfl, rfl, fun D2 g2 => ⟨trivial, _, D2, rfl, rfl, ref_same hC2 g2, g2, ⟨rfl, _, _, rfl, rfl, fun D3 g3 => ⟨trivial, _, D3, rfl, rfl, ref_same hC3 g3, g3, ⟨rfl, _, _, rfl, rfl, fun D4 g4 => ⟨trivial, _, D4, rfl, rfl, ref_same hC4 g4, g4, (show 5 ≤ sizeLine from sizeL (by decide)), ?_⟩⟩⟩⟩⟩⟩⟩⟩⟩⟩
  refine ⟨rfl, _, _, rfl, rfl, fun D5 g5 => ⟨trivial, _, D5, rfl, rfl, ref_same hC5 g5, g5, (show 1 ≤ sizeLine from sizeL (by decide)), rfl, (show 6 ≤ sizeLine from sizeL (by decide)), ?_⟩⟩
  have e7 : eqOk 1 (.lst [.bl true, .bl true, .bl true, .bl true, .bl true, .bl true, .bl true] : D) = true := by simp [eqOk, eqOks]
  refine ⟨rfl, _, _, rfl, rfl, fun D6 g6 => ⟨trivial, _, D6, rfl, rfl, ref_same hC6 g6, g6, (show 1 ≤ sizeLine from sizeL (by decide)), rfl, (show 7 ≤ sizeLine from sizeL (by decide)), (show 1 ≤ sizeLine from sizeL (by decide)), trivial, by decide, by decide, (show 7 ≤ sizeLine from sizeL (by decide)), trivial, eqOk_le (by decide) e7, eqOk_le (by decide) e7, false, ?b1, if_f (by decide) ?_⟩⟩
  case b1 =>
    show RV.v (.bl (!eqD (.lst [.bl true, .bl true, .bl true, .bl true, .bl true, .bl true, .bl true]) (.lst [.bl true, .bl true, .bl true, .bl true, .bl true, .bl true, .bl true]))) = _
    rw [eqD_self e7]; rfl
  have bdS : ∀ (l : List Int) {k : Nat}, (l.all fun x => decide (x.natAbs ≤ 10)) = true → 4 ≤ k → Bd l (2 ^ k) := fun l k h hk x hx => Nat.le_trans (of_decide_eq_true (List.all_eq_true.mp h x hx)) (Nat.le_trans (show 10 ≤ 2 ^ 4 by decide) (Nat.pow_le_pow_right (by decide) hk))
  have five : (5 : Int).natAbs < 2 ^ 1000 := Nat.lt_of_lt_of_le (show 5 < 2 ^ 4 by decide) (Nat.pow_le_pow_right (by decide) (by omega))
  have m1 : trim (mulL [1, 1] [1, 1]) = [1, 2, 1] := by decide +kernel
  have m2 : fstD [6, -5, 1] [] = .int 5 := by
    unfold fstD
    rw [if_neg (by decide)]
    have : ((prims.find? fun p => !decide (evalL [6, -5, 1] p = evalL [] p)).getD 0) = 5 := by decide +kernel
    rw [this]
  have m3 : trim (addL [1, 2] [1, -2]) = [2] := by decide +kernel
  have m4 : evalL [] 5 = 0 := rfl
  have m5 : powL [0, 1] (3 : Int).toNat = [0, 0, 0, 1] := by decide +kernel
  have m6 : powL [] (0 : Int).toNat = [1] := rfl
  have m7 : fstD [1] [1] = .non := by unfold fstD; rw [if_pos rfl]
  have m8 : isPolyB (.tup []) = true := by decide +kernel
  have m9 : isPolyB (.tup [.int 0]) = false := by decide +kernel
  refine ⟨(show 2 ≤ sizeLine from sizeL (by decide)), (show 2 ≤ sizeLine from sizeL (by decide)), tI [1, 1], tI [1, 1], rfl, okP_tI _, fun h => absurd (show isPolyB (tI [1, 1]) = true by decide +kernel) (by rw [h]; decide), fun _ => ⟨okP_tI _, fun h => absurd (show isPolyB (tI [1, 1]) = true by decide +kernel) (by rw [h]; decide), fun _ => ⟨[1, 1], [1, 1], rfl, rfl, by decide, by decide, bdS _ (by decide) (by decide), bdS _ (by decide) (by decide), ?_⟩⟩⟩
  refine ⟨(show 3 ≤ sizeLine from sizeL (by decide)), (show 0 ≤ sizeLine from sizeL (by decide)), tI [6, -5, 1], tI [], rfl, okP_tI _, fun h => absurd (show isPolyB (tI [6, -5, 1]) = true by decide +kernel) (by rw [h]; decide), fun _ => ⟨okP_tI _, fun h => absurd (show isPolyB (tI []) = true by decide +kernel) (by rw [h]; decide), fun _ => ⟨[6, -5, 1], [], rfl, rfl, by decide +kernel, rfl, by decide, by decide, bdS _ (by decide) (by decide), bdS _ (by decide) (by decide), ?_⟩⟩⟩
  refine ⟨(show 2 ≤ sizeLine from sizeL (by decide)), (show 2 ≤ sizeLine from sizeL (by decide)), tI [1, 2], tI [1, -2], rfl, okP_tI _, fun h => absurd (show isPolyB (tI [1, 2]) = true by decide +kernel) (by rw [h]; decide), fun _ => ⟨okP_tI _, fun h => absurd (show isPolyB (tI [1, -2]) = true by decide +kernel) (by rw [h]; decide), fun _ => ⟨[1, 2], [1, -2], rfl, rfl, by decide, by decide, ?_⟩⟩⟩
  refine ⟨(show 0 ≤ sizeLine from sizeL (by decide)), tI [], .int 5, rfl, okP_tI _, fun h => absurd (show isPolyB (tI []) = true by decide +kernel) (by rw [h]; decide), fun _ => ⟨rfl, fun h => Bool.noConfusion (show true = false from h), fun _ => ⟨[], 5, rfl, rfl, by decide, bdS _ (by decide) (by decide), five, ?_⟩⟩⟩
  refine ⟨(show 2 ≤ sizeLine from sizeL (by decide)), tI [0, 1], .int 3, rfl, okP_tI _, fun h => absurd (show isPolyB (tI [0, 1]) = true by decide +kernel) (by rw [h]; decide), fun _ => ⟨rfl, fun h => absurd (show inB (.int 3) 0 12 = true by decide) (by rw [h]; decide), fun _ => ⟨[0, 1], 3, rfl, rfl, by decide, bdS _ (by decide) (by decide), by decide, by decide, ?_⟩⟩⟩
  refine ⟨(show 0 ≤ sizeLine from sizeL (by decide)), tI [], .int 0, rfl, okP_tI _, fun h => absurd (show isPolyB (tI []) = true by decide +kernel) (by rw [h]; decide), fun _ => ⟨rfl, fun h => absurd (show inB (.int 0) 0 12 = true by decide) (by rw [h]; decide), fun _ => ⟨[], 0, rfl, rfl, by decide, bdS _ (by decide) (by decide), by decide, by decide, ?_⟩⟩⟩
  refine ⟨(show 1 ≤ sizeLine from sizeL (by decide)), (show 1 ≤ sizeLine from sizeL (by decide)), tI [1], tI [1], rfl, okP_tI _, fun h => absurd (show isPolyB (tI [1]) = true by decide +kernel) (by rw [h]; decide), fun _ => ⟨okP_tI _, fun h => absurd (show isPolyB (tI [1]) = true by decide +kernel) (by rw [h]; decide), fun _ => ⟨[1], [1], rfl, rfl, by decide +kernel, by decide +kernel, by decide, by decide, bdS _ (by decide) (by decide), bdS _ (by decide) (by decide), ?_⟩⟩⟩
  refine ⟨(show 0 ≤ sizeLine from sizeL (by decide)), .tup [], rfl, .inl (by simp [eqOk, eqOks]), (show 1 ≤ sizeLine from sizeL (by decide)), .tup [.int 0], rfl, .inl (by simp [eqOk, eqOks]), (show 9 ≤ sizeLine from sizeL (by decide)), ?_⟩
  rw [m1, m2, m3, m4, m5, m6, m7, m8, m9]
  exact ⟨rfl, (show 3 ≤ sizeLine from sizeL (by decide)), (show 1 ≤ sizeLine from sizeL (by decide)), (show 4 ≤ sizeLine from sizeL (by decide)), (show 1 ≤ sizeLine from sizeL (by decide)), (show 9 ≤ sizeLine from sizeL (by decide)), .lst [tI [1, 2, 1], .int 5, tI [2], .int 0, tI [0, 0, 0, 1], tI [1], .non, .bl true, .bl false], rfl, by simp [eqOk, eqOks, eqOk_tI], by simp [szD, szs, sz_tI], rfl⟩
end DL

set_option maxHeartbeats 4000000
namespace DL
open PySem PySem.Spec PyProof.Rows L2 LamX
def hfa0 : List He.Fa := [.glo "is_whole", .glo "is_within", .glo "split", .glo "is_prime", .glo "next_prime", .glo "is_poly_by", .glo "trimmed", .glo "added_by", .glo "times_by", .glo "power_by", .glo "at_by", .glo "unlike_prime", .glo "need_poly", .glo "need_two", .glo "is_poly", .glo "poly_at", .glo "poly_added", .glo "poly_times", .glo "poly_power", .glo "poly_parting", .glo "_law_begun", .glo "_law_mixed", .glo "_law_take", .glo "_law_pick", .glo "_law_caught", .glo "_law_kinds", .glo "_law_says", .glo "_law_is_number", .glo "_law_odd", .glo "_law_number"]
def hfa1 : List He.Fa := [.glo "_law_trim", .glo "_law_plus", .glo "_law_product", .glo "_law_at", .glo "_law_poly", .glo "_law_is_poly", .glo "_law_right", .glo "law", .glo "PowerError", .glo "BadMany", .glo "BadOne", .glo "BadOther", .glo "BadPoly", .glo "BadValue", .exc "PowerError", .exc "BadMany", .exc "BadOne", .exc "BadOther", .exc "BadPoly", .exc "BadValue", .exm "PowerError" "PowerError" true, .exm "BadMany" "PowerError" true, .exm "BadOne" "PowerError" true, .exm "BadOther" "PowerError" true, .exm "BadPoly" "PowerError" true, .exm "BadValue" "PowerError" true, .free "abs", .free "all", .free "any", .free "bool"]
def hfa2 : List He.Fa := [.free "dict", .free "enumerate", .free "int", .free "isinstance", .free "len", .free "list", .free "max", .free "min", .free "range", .free "repr", .free "sorted", .free "str", .free "sum", .free "tuple", .free "zip", .int "MOST_PLACES" 200, .int "MOST_POWER" 12]
def hfa : List He.Fa := hfa0 ++ hfa1 ++ hfa2
def hfn0 : List He.DefD := [dfD "is_whole" (topS 1), dfD "is_within" (topS 2), dfD "split" (topS 3), dfD "is_prime" (topS 4), dfD "next_prime" (topS 5), dfD "is_poly_by" (topS 16), dfD "trimmed" (topS 17), dfD "added_by" (topS 18), dfD "times_by" (topS 19), dfD "power_by" (topS 20), dfD "at_by" (topS 21), dfD "unlike_prime" (topS 22), dfD "need_poly" (topS 23), dfD "need_two" (topS 24), dfD "is_poly" (topS 25), dfD "poly_at" (topS 26), dfD "poly_added" (topS 27), dfD "poly_times" (topS 28), dfD "poly_power" (topS 29), dfD "poly_parting" (topS 30)]
def hfn1 : List He.DefD := [dfD "_law_begun" (topS 32), dfD "_law_mixed" (topS 33), dfD "_law_take" (topS 34), dfD "_law_pick" (topS 35), dfD "_law_caught" (topS 36), dfD "_law_kinds" (topS 37), dfD "_law_says" (topS 38), dfD "_law_is_number" (topS 39), dfD "_law_odd" (topS 40), dfD "_law_number" (topS 41), dfD "_law_trim" (topS 42), dfD "_law_plus" (topS 43), dfD "_law_product" (topS 44), dfD "_law_at" (topS 45), dfD "_law_poly" (topS 46), dfD "_law_is_poly" (topS 47), dfD "_law_right" (topS 48), dfD "law" (topS 49)]
def hfn : List He.DefD := hfn0 ++ hfn1
def hloose0 : List PySem.Str := ["is_whole", "is_within", "split", "is_prime", "next_prime", "PowerError", "BadMany", "BadOne", "BadOther", "BadPoly", "BadValue", "MOST_PLACES", "MOST_POWER", "is_poly_by", "trimmed", "added_by", "times_by", "power_by", "at_by", "unlike_prime", "need_poly", "need_two", "is_poly", "poly_at", "poly_added", "poly_times", "poly_power", "poly_parting", "_law_begun", "_law_mixed"]
def hloose1 : List PySem.Str := ["_law_take", "_law_pick", "_law_caught", "_law_kinds", "_law_says", "_law_is_number", "_law_odd", "_law_number", "_law_trim", "_law_plus", "_law_product", "_law_at", "_law_poly", "_law_is_poly", "_law_right"]
def hloose : List PySem.Str := hloose0 ++ hloose1
def htf : List He.Defn := [("law", none)]
def hex_ (K : PySem.W.Frag) : Bool := (["PowerError", "BadMany", "BadOne", "BadOther", "BadPoly", "BadValue"] : List Str).all fun x => excIB K (He.ga K x)
abbrev hR : PySem.W.OpenRow := PySem.W.OpenLaw.row PySem.Challenge.rw_toldatpowers_k00_whole_polynomials
abbrev hhk : PySem.W.Hook := He.hookX 4 hfa hfn [] htf hex_
noncomputable def hob (s : PySem.W.SharedT) : He.AlX := He.obsX 4 hfa hfn [] htf hex_ (HandSHeadRun.getT s)
theorem hob_eq (s : PySem.W.SharedT) : hob s = hhk.obs s.abs := He.obsX_eq (HandSHeadRun.getT_eq s)

section
variable {P : Program} {w : World} {K : PySem.W.Frag} {mg : Str → Option Value} {base : Heap}
theorem sc_mixed : FnScope ["draw", "found", "cell"] ["draw"] (defScope (topS 33)) := ⟨rfl, rfl, rfl, by decide +kernel, rfl, by decide +kernel, by decide +kernel⟩
theorem fn_mixed {f : Addr} {fd : FuncData} {k : Nat} (B : Blt mg) (F : Fun K "_law_mixed" "_law_mixed" (topS 33) f fd) : FnOk P w K mg base (L2.CX P w) (k + 1) f fd ["draw"] spMixed := by
  refine F.okX sc_mixed (fun vs H Q E ⟨a, w, c, ca, cells, e, _⟩ => by rw [e]; rfl) fun cdv A outer s H vs Q E hr h => ?_
  have hu0 : (cxOf (L2.CX P w) P w K mg base ["draw", "found", "cell"] "_law_mixed" (defScope (topS 33)) f cdv A outer s H E).A.units + 64 < cLine := hr.units
  have hu : (cxOf (L2.CX P w) P w K mg base ["draw", "found", "cell"] "_law_mixed" (defScope (topS 33)) f cdv A outer s H E).A.units + 1 < cLine := by omega
  refine ⟨_, pss_cons (ps_dput hu (pe_var (i := 0) rfl (.inl rfl)) pe_str (pe_op op_add (pe_dget hu (pe_var (i := 0) rfl (.inl rfl)) pe_str (fun _ _ => rfl)) pe_int) rfl)
    (pss_cons (ps_set (i := 1) sc_mixed.nd rfl (.inl rfl) (pe_op op_add pe_int (pe_op op_mul pe_int (pe_dget hu (pe_var (i := 0) rfl (.inl rfl)) pe_str (fun _ _ => rfl)))))
    (pss_cons (ps_for (passes_of rfl) rfl (pi_list (pe_op op_cat (pe_dget hu (pe_var (i := 0) rfl (.inl rfl)) pe_str (fun _ _ => rfl)) (pe_lst (pa_cons (pe_dget hu (pe_var (i := 0) rfl (.inl rfl)) pe_str (fun _ _ => rfl)) pa_nil)))) (pg_name (i := 2) sc_mixed.nd rfl (.inl rfl))
      (pss_cons (ps_set (i := 1) sc_mixed.nd rfl (.inl rfl) (pe_op op_modN (pe_callTy call_int1 rfl B.int (by decide +kernel) (pa_cons (pe_op op_mul (pe_op op_add (pe_var (i := 1) rfl (.inl rfl)) (pe_var (i := 2) rfl (.inl rfl))) pe_int) pa_nil)) (pe_op op_sub (pe_op op_pow pe_int pe_int) pe_int)))
      (pss_one (ps_set (i := 1) sc_mixed.nd rfl (.inl rfl) (pe_op op_add (pe_var (i := 1) rfl (.inl rfl)) (pe_op op_fdivB (pe_var (i := 1) rfl (.inl rfl)) (pe_op op_pow pe_int pe_int)))))))
    (pss_one (ps_ret (pe_var (i := 1) rfl (.inl rfl)))))), ?_⟩
  exact mixed_law h
theorem sc_take : FnScope ["draw", "amount", "found"] ["draw", "amount"] (defScope (topS 34)) := ⟨rfl, rfl, rfl, by decide +kernel, rfl, by decide +kernel, by decide +kernel⟩
theorem fn_take {f g : Addr} {fd gd : FuncData} {k : Nat} (B : Blt mg) (F : Fun K "_law_take" "_law_take" (topS 34) f fd) (hm : mg "_law_mixed" = some (.ref g)) (G : Fun K "_law_mixed" "_law_mixed" (topS 33) g gd) : FnOk P w K mg base (L2.CX P w) (k + 2) f fd ["draw", "amount"] spTake := by
  refine F.okX sc_take (fun vs H Q E ⟨a, w, c, ca, cells, n, e, _⟩ => by rw [e]; rfl) fun cdv A outer s H vs Q E hr h => ?_
  have hu0 : (cxOf (L2.CX P w) P w K mg base ["draw", "amount", "found"] "_law_take" (defScope (topS 34)) f cdv A outer s H E).A.units + 64 < cLine := hr.units
  have hu : (cxOf (L2.CX P w) P w K mg base ["draw", "amount", "found"] "_law_take" (defScope (topS 34)) f cdv A outer s H E).A.units + 1 < cLine := by omega
  have tk : Takes (cxOf (L2.CX P w) P w K mg base ["draw", "amount", "found"] "_law_take" (defScope (topS 34)) f cdv A outer s H E) (bW E) := takes_of rfl rfl rfl rfl
  have hb : L2.Binds K gd ["draw"] [] := G.binds (fun _ _ _ _ _ _ us hl => match us, hl with | [_], _ => rfl)
  have gm := fn_mixed (P := P) (w := w) (base := base) (k := k) B G
  refine ⟨tTake K fun σ => WE (bW E) σ, pss_cons (ps_if (pt_cmpR op_lt (pe_var (i := 1) rfl (.inl rfl)) pe_int rfl) (pss_one (ps_ret pe_int)) pss_nil)
    (pss_cons (ps_if (pt_cmpR op_gt (pe_dget hu (pe_var (i := 0) rfl (.inl rfl)) pe_str (fun _ _ => rfl)) pe_int rfl)
      (pss_cons (ps_set (i := 2) sc_take.nd rfl (.inl rfl) (pe_op op_modN (pe_callTy call_int1 rfl B.int (by decide +kernel) (pa_cons (pe_dget hu (pe_var (i := 0) rfl (.inl rfl)) pe_str (fun _ _ => rfl)) pa_nil)) (pe_var (i := 1) rfl (.inl rfl))))
      (pss_cons (ps_dput hu (pe_var (i := 0) rfl (.inl rfl)) pe_str (pe_op op_fdivB (pe_dget hu (pe_var (i := 0) rfl (.inl rfl)) pe_str (fun _ _ => rfl)) (pe_var (i := 1) rfl (.inl rfl))) rfl)
      (pss_one (ps_ret (pe_var (i := 2) rfl (.inl rfl)))))) pss_nil)
    (pss_cons (ps_set (i := 2) sc_take.nd rfl (.inl rfl) (pe_callS gm hr rfl hm G.kp hb (fun σ => passAt tk σ) (pa_cons (pe_var (i := 0) rfl (.inl rfl)) pa_nil)))
    (pss_cons (ps_while (passes_of rfl) (PW.pt (pw_and (pt_cmpR op_gt (pe_var (i := 1) rfl (.inl rfl)) (pe_op op_pow pe_int pe_int) rfl) (pw_and1 (pt_cmpR op_lt (pe_var (i := 2) rfl (.inl rfl)) (pe_op op_mulB (pe_var (i := 1) rfl (.inl rfl)) (pe_var (i := 1) rfl (.inl rfl))) rfl))))
      (pss_one (ps_set (i := 2) sc_take.nd rfl (.inl rfl) (pe_op op_add (pe_op op_mul (pe_var (i := 2) rfl (.inl rfl)) (pe_op op_pow pe_int pe_int)) (pe_callS gm hr rfl hm G.kp hb (fun σ => passAt tk σ) (pa_cons (pe_var (i := 0) rfl (.inl rfl)) pa_nil))))))
    (pss_one (ps_ret (pe_op op_modN (pe_callTy call_int1 rfl B.int (by decide +kernel) (pa_cons (pe_op op_fdivB (pe_var (i := 2) rfl (.inl rfl)) pe_int) pa_nil)) (pe_var (i := 1) rfl (.inl rfl)))))))), ?_⟩
  exact take_law h
theorem kn_law_take (T : Tx K mg) : Kn P w K mg base "_law_take" 2 ["draw", "amount"] (topS 34) (sp_law_take mg) := by
  obtain ⟨f, fd, hm, F⟩ := T.d_law_take
  obtain ⟨g, gd, hg, G⟩ := T.d_law_mixed
  refine ⟨fun da ds Q er ⟨a, n, _, e, _⟩ => by rw [e]; rfl, f, fd, hm, F, F.binds (fun _ _ _ _ _ _ us hl => match us, hl with | [_, _], _ => rfl), ?_⟩
  exact (fn_take (k := 0) T.b F hg G).imp fun vs H Q E h => take_imp h
theorem sc_begun : FnScope ["script", "whole", "cells", "cell"] ["script"] (defScope (topS 32)) := ⟨rfl, rfl, rfl, by decide +kernel, rfl, by decide +kernel, by decide +kernel⟩
theorem fn_begun {f : Addr} {fd : FuncData} {k : Nat} (B : Blt mg) (F : Fun K "_law_begun" "_law_begun" (topS 32) f fd) : FnOk P w K mg base (L2.CX P w) (k + 1) f fd ["script"] (spBegun K) := by
  refine F.okX sc_begun (fun vs H Q E ⟨a, ns, e, _⟩ => by rw [e]; rfl) fun cdv A outer s H vs Q E hr h => ?_
  refine ⟨tBegun K, pss_cons (ps_par (i := 1) (j := 2) rfl sc_begun.nd rfl rfl (by decide) rfl rfl (pa_cons pe_int (pa_cons (pe_lst pa_nil) pa_nil)) rfl)
    (pss_cons (ps_for (passes_of rfl) rfl (pi_list (pe_var (i := 0) rfl (.inl rfl))) (pg_name (i := 3) sc_begun.nd rfl (.inl rfl))
      (pss_one (ps_if (pt_truth (pe_callB call_isi rfl B.isinstance (by decide +kernel) (pa_cons (pe_var (i := 3) rfl (.inl rfl)) (pa_cons (pe_bltn (v := .ty "int") rfl B.int (by decide +kernel) rfl) pa_nil))) (fun _ => rfl))
        (pss_cons (ps_if (pt_cmpR op_ge (pe_var (i := 3) rfl (.inl rfl)) (pe_op op_pow pe_int pe_int) rfl)
            (pss_one (ps_set (i := 1) sc_begun.nd rfl (.inl rfl) (pe_op op_add (pe_op op_mulB (pe_var (i := 1) rfl (.inl rfl)) (pe_op op_add (pe_op op_sub (pe_var (i := 3) rfl (.inl rfl)) (pe_op op_pow pe_int pe_int)) pe_int)) (pe_op op_sub (pe_var (i := 3) rfl (.inl rfl)) (pe_op op_pow pe_int pe_int))))) pss_nil)
          (pss_one (ps_expr (pe_bm PySem.F.plainAttrs_list PySem.F.slot_list_append PySem.F.type_list_append mt_append (pe_var (i := 2) rfl (.inl rfl)) (pa_cons (pe_var (i := 3) rfl (.inl rfl)) pa_nil)))))
        pss_nil)))
    (pss_one (ps_ret (pe_disp (pps_cons pe_str (pe_var (i := 1) rfl (.inl rfl)) (pps_cons pe_str (pe_var (i := 2) rfl (.inl rfl)) (pps_cons pe_str pe_int pps_nil))) rfl rfl (by simp) (by decide))))), ?_⟩
  exact begun_law h
theorem sc_is_whole : FnScope ["thing"] ["thing"] (defScope (topS 1)) := ⟨rfl, rfl, rfl, by decide +kernel, rfl, by decide +kernel, by decide +kernel⟩
theorem kn_is_whole (T : Tx K mg) : Kn P w K mg base "is_whole" 1 ["thing"] (topS 1) (sp_is_whole mg) := by
  obtain ⟨f, fd, hm, F⟩ := T.d_is_whole
  refine kn_mk (N := ["thing"]) (p := p_is_whole mg) F hm sc_is_whole (len_is_whole mg) (fun _ _ _ _ _ _ us hl => match us, hl with | [_], _ => rfl) (fun cdv A outer s H E da hr tk => ?_) (hp_is_whole mg)
  exact (dss_one (ds_ret (d_and (d_isi T.b.isinstance (dv 0) (d_cls T.b.int (by decide +kernel))) (d_one (d_not (d_isi T.b.isinstance (dv 0) (d_cls T.b.bool (by decide +kernel))))))))
theorem sc_is_within : FnScope ["thing", "low", "high"] ["thing", "low", "high"] (defScope (topS 2)) := ⟨rfl, rfl, rfl, by decide +kernel, rfl, by decide +kernel, by decide +kernel⟩
theorem kn_is_within (T : Tx K mg) : Kn P w K mg base "is_within" 2 ["thing", "low", "high"] (topS 2) (sp_is_within mg) := by
  obtain ⟨f, fd, hm, F⟩ := T.d_is_within
  refine kn_mk (N := ["thing", "low", "high"]) (p := p_is_within mg) F hm sc_is_within (len_is_within mg) (fun _ _ _ _ _ _ us hl => match us, hl with | [_, _, _], _ => rfl) (fun cdv A outer s H E da hr tk => ?_) (hp_is_within mg)
  exact (dss_one (ds_ret (d_and (d_call (kn_is_whole T) hr (by decide) tk (da_cons (dv 0) da_nil)) (d_one (d_chain c_le c_le (dv 1) (dv 0) (dv 2))))))
theorem sc_split : FnScope ["number", "found", "left", "late", "often"] ["number"] (defScope (topS 3)) := ⟨rfl, rfl, rfl, by decide +kernel, rfl, by decide +kernel, by decide +kernel⟩
theorem kn_split (T : Tx K mg) : Kn P w K mg base "split" 1 ["number"] (topS 3) (sp_split mg) := by
  obtain ⟨f, fd, hm, F⟩ := T.d_split
  refine kn_mk (N := ["number", "found", "left", "late", "often"]) (p := p_split mg) F hm sc_split (len_split mg) (fun _ _ _ _ _ _ us hl => match us, hl with | [_], _ => rfl) (fun cdv A outer s H E da hr tk => ?_) (hp_split mg)
  exact (dss_cons (ds_par3' 1 2 3 rfl sc_split.nd (d_lst da_nil) (dv 0) d_int)
    (dss_cons (ds_while (passes_of rfl) (dt_cmp c_le (d_mul (dv 3) (dv 3)) (dv 2)) (dss_cons (ds_set 4 sc_split.nd d_int)
    (dss_cons (ds_while (passes_of rfl) (dt_cmp (c_eq hr) (d_mod (dv 2) (dv 3)) d_int) (dss_one (ds_par2 2 4 rfl sc_split.nd (d_div (dv 2) (dv 3)) (d_add (dv 4) d_int))))
    (dss_cons (ds_if (dt_cmp c_gt (dv 4) d_int) (dss_one (ds_expr (d_append 1 (d_tup (da_cons (dv 3) (da_cons (dv 4) da_nil)))))) dss_nil)
    (dss_one (ds_set 3 sc_split.nd (d_add (dv 3) d_int)))))))
    (dss_cons (ds_if (dt_cmp c_gt (dv 2) d_int) (dss_one (ds_expr (d_append 1 (d_tup (da_cons (dv 2) (da_cons d_int da_nil)))))) dss_nil)
    (dss_one (ds_ret (dv 1))))))
theorem sc_is_prime : FnScope ["number"] ["number"] (defScope (topS 4)) := ⟨rfl, rfl, rfl, by decide +kernel, rfl, by decide +kernel, by decide +kernel⟩
theorem kn_is_prime (T : Tx K mg) : Kn P w K mg base "is_prime" 2 ["number"] (topS 4) (sp_is_prime mg) := by
  obtain ⟨f, fd, hm, F⟩ := T.d_is_prime
  refine kn_mk (N := ["number"]) (p := p_is_prime mg) F hm sc_is_prime (len_is_prime mg) (fun _ _ _ _ _ _ us hl => match us, hl with | [_], _ => rfl) (fun cdv A outer s H E da hr tk => ?_) (hp_is_prime mg)
  exact (dss_one (ds_ret (d_and (d_cmp c_gt (dv 0) d_int) (d_one (d_cmp (c_eq hr) (d_call (kn_split T) hr (by decide) tk (da_cons (dv 0) da_nil)) (d_lst (da_cons (d_tup (da_cons (dv 0) (da_cons d_int da_nil))) da_nil)))))))
theorem sc_next_prime : FnScope ["number", "found"] ["number"] (defScope (topS 5)) := ⟨rfl, rfl, rfl, by decide +kernel, rfl, by decide +kernel, by decide +kernel⟩
theorem kn_next_prime (T : Tx K mg) : Kn P w K mg base "next_prime" 3 ["number"] (topS 5) (sp_next_prime mg) := by
  obtain ⟨f, fd, hm, F⟩ := T.d_next_prime
  refine kn_mk (N := ["number", "found"]) (p := p_next_prime mg) F hm sc_next_prime (len_next_prime mg) (fun _ _ _ _ _ _ us hl => match us, hl with | [_], _ => rfl) (fun cdv A outer s H E da hr tk => ?_) (hp_next_prime mg)
  exact (dss_cons (ds_set 1 sc_next_prime.nd (d_add (dv 0) d_int))
    (dss_cons (ds_while (passes_of rfl) (dt_not (dt_val (d_call (kn_is_prime T) hr (by decide) tk (da_cons (dv 1) da_nil)))) (dss_one (ds_set 1 sc_next_prime.nd (d_add (dv 1) d_int))))
    (dss_one (ds_ret (dv 1)))))
theorem sc_is_poly_by : FnScope ["thing", "item"] ["thing"] (defScope (topS 16)) := ⟨rfl, rfl, rfl, by decide +kernel, rfl, by decide +kernel, by decide +kernel⟩
theorem kn_is_poly_by (T : Tx K mg) : Kn P w K mg base "is_poly_by" 2 ["thing"] (topS 16) (sp_is_poly_by mg) := by
  obtain ⟨f, fd, hm, F⟩ := T.d_is_poly_by
  refine kn_mk (N := ["thing", "item"]) (p := p_is_poly_by mg) F hm sc_is_poly_by (len_is_poly_by mg) (fun _ _ _ _ _ _ us hl => match us, hl with | [_], _ => rfl) (fun cdv A outer s H E da hr tk => ?_) (hp_is_poly_by mg)
  exact (dss_cons (ds_if (dw_or (dt_not (dt_val (d_isi T.b.isinstance (dv 0) (d_cls T.b.tuple (by decide +kernel))))) (dw_or (dt_cmp c_gt (d_len T.b.len (dv 0)) (d_globI T.c_MOST_PLACES)) (dw_or1 (dt_not (dt_val (d_all rfl T.b.all (d_lc (own := [("item", 1)]) rfl sc_is_poly_by.nd (di_seq (dv 0)) (N := ["thing", "item"]) (sc := defScope (topS 16)) (by decide +kernel) (fun _ _ _ _ _ => (dg_name 1 sc_is_poly_by.nd)) (gv_N (by decide)) (fun _ _ _ _ _ => (d_call (kn_is_whole T) hr (by decide) L2.takes0 (da_cons (dv 1) da_nil)))))))))).dt (dss_one (ds_ret d_bl)) dss_nil)
    (dss_one (ds_ret (d_or (d_cmp (c_eq hr) (dv 0) (d_tup da_nil)) (d_one (d_cmp (c_ne hr) (d_ix (dv 0) (d_neg d_int)) d_int))))))
theorem sc_trimmed : FnScope ["line", "size"] ["line"] (defScope (topS 17)) := ⟨rfl, rfl, rfl, by decide +kernel, rfl, by decide +kernel, by decide +kernel⟩
theorem kn_trimmed (T : Tx K mg) : Kn P w K mg base "trimmed" 1 ["line"] (topS 17) (sp_trimmed mg) := by
  obtain ⟨f, fd, hm, F⟩ := T.d_trimmed
  refine kn_mk (N := ["line", "size"]) (p := p_trimmed mg) F hm sc_trimmed (len_trimmed mg) (fun _ _ _ _ _ _ us hl => match us, hl with | [_], _ => rfl) (fun cdv A outer s H E da hr tk => ?_) (hp_trimmed mg)
  exact (dss_cons (ds_set 1 sc_trimmed.nd (d_len T.b.len (dv 0)))
    (dss_cons (ds_while (passes_of rfl) (dw_and (dt_cmp c_gt (dv 1) d_int) (dw_and1 (dt_cmp (c_eq hr) (d_ix (dv 0) (d_sub (dv 1) d_int)) d_int))).dt (dss_one (ds_set 1 sc_trimmed.nd (d_sub (dv 1) d_int))))
    (dss_one (ds_ret (d_tuple T.b.tuple (d_sl (dv 0) dp_no (dp_some (dv 1))))))))
theorem sc_added_by : FnScope ["one", "other", "long", "short", "item", "at"] ["one", "other"] (defScope (topS 18)) := ⟨rfl, rfl, rfl, by decide +kernel, rfl, by decide +kernel, by decide +kernel⟩
theorem kn_added_by (T : Tx K mg) : Kn P w K mg base "added_by" 2 ["one", "other"] (topS 18) (sp_added_by mg) := by
  obtain ⟨f, fd, hm, F⟩ := T.d_added_by
  refine kn_mk (N := ["one", "other", "long", "short", "item", "at"]) (p := p_added_by mg) F hm sc_added_by (len_added_by mg) (fun _ _ _ _ _ _ us hl => match us, hl with | [_, _], _ => rfl) (fun cdv A outer s H E da hr tk => ?_) (hp_added_by mg)
  exact (dss_cons (ds_asg (d_if (dt_cmp c_ge (d_len T.b.len (dv 0)) (d_len T.b.len (dv 1))) (d_tup (da_cons (dv 0) (da_cons (dv 1) da_nil))) (d_tup (da_cons (dv 1) (da_cons (dv 0) da_nil)))) (dg_tup rfl (dgs_cons (dg_name 2 sc_added_by.nd) (dgs_cons (dg_name 3 sc_added_by.nd) dgs_nil))))
    (dss_one (ds_ret (d_call (kn_trimmed T) hr (by decide) tk (da_cons (d_lc (own := [("at", 5), ("item", 4)]) rfl sc_added_by.nd (di_enum T.b.enumerate (da_cons (dv 2) da_nil)) (N := ["one", "other", "long", "short", "item", "at"]) (sc := defScope (topS 18)) (by decide +kernel) (fun _ _ _ _ _ => (dg_tup rfl (dgs_cons (dg_name 5 sc_added_by.nd) (dgs_cons (dg_name 4 sc_added_by.nd) dgs_nil)))) (gv_T (gvs_N (by decide) (gvs_N (by decide) gvs_nil))) (fun _ _ _ _ _ => (d_add (dv 4) (d_if (dt_cmp c_lt (dv 5) (d_len T.b.len (dv 3))) (d_ix (dv 3) (dv 5)) d_int)))) da_nil)))))
theorem sc_times_by : FnScope ["one", "other", "found", "at", "item", "late", "more"] ["one", "other"] (defScope (topS 19)) := ⟨rfl, rfl, rfl, by decide +kernel, rfl, by decide +kernel, by decide +kernel⟩
theorem kn_times_by (T : Tx K mg) : Kn P w K mg base "times_by" 2 ["one", "other"] (topS 19) (sp_times_by mg) := by
  obtain ⟨f, fd, hm, F⟩ := T.d_times_by
  refine kn_mk (N := ["one", "other", "found", "at", "item", "late", "more"]) (p := p_times_by mg) F hm sc_times_by (len_times_by mg) (fun _ _ _ _ _ _ us hl => match us, hl with | [_, _], _ => rfl) (fun cdv A outer s H E da hr tk => ?_) (hp_times_by mg)
  exact (dss_cons (ds_set 2 sc_times_by.nd (d_mul (d_lst (da_cons d_int da_nil)) (d_max2 rfl T.b.max d_int (d_sub (d_add (d_len T.b.len (dv 0)) (d_len T.b.len (dv 1))) d_int))))
    (dss_cons (ds_for (passes_of rfl) rfl (di_enum T.b.enumerate (da_cons (dv 0) da_nil)) (dg_tup rfl (dgs_cons (dg_name 3 sc_times_by.nd) (dgs_cons (dg_name 4 sc_times_by.nd) dgs_nil))) (dss_one (ds_if (dt_cmp (c_ne hr) (dv 4) d_int) (dss_one (ds_for (passes_of rfl) rfl (di_enum T.b.enumerate (da_cons (dv 1) da_nil)) (dg_tup rfl (dgs_cons (dg_name 5 sc_times_by.nd) (dgs_cons (dg_name 6 sc_times_by.nd) dgs_nil))) (dss_one (ds_setIx 2 (d_add (d_ix (dv 2) (d_add (dv 3) (dv 5))) (d_mul (dv 4) (dv 6))) (d_add (dv 3) (dv 5)))))) dss_nil)))
    (dss_one (ds_ret (d_call (kn_trimmed T) hr (by decide) tk (da_cons (dv 2) da_nil))))))
theorem sc_power_by : FnScope ["poly", "many", "found", "lap"] ["poly", "many"] (defScope (topS 20)) := ⟨rfl, rfl, rfl, by decide +kernel, rfl, by decide +kernel, by decide +kernel⟩
theorem kn_power_by (T : Tx K mg) : Kn P w K mg base "power_by" 3 ["poly", "many"] (topS 20) (sp_power_by mg) := by
  obtain ⟨f, fd, hm, F⟩ := T.d_power_by
  refine kn_mk (N := ["poly", "many", "found", "lap"]) (p := p_power_by mg) F hm sc_power_by (len_power_by mg) (fun _ _ _ _ _ _ us hl => match us, hl with | [_, _], _ => rfl) (fun cdv A outer s H E da hr tk => ?_) (hp_power_by mg)
  exact (dss_cons (ds_set 2 sc_power_by.nd (d_tup (da_cons d_int da_nil)))
    (dss_cons (ds_for (passes_of rfl) rfl (di_rng1 T.b.range (da_cons (dv 1) da_nil)) (dg_name 3 sc_power_by.nd) (dss_one (ds_set 2 sc_power_by.nd (d_call (kn_times_by T) hr (by decide) tk (da_cons (dv 2) (da_cons (dv 0) da_nil))))))
    (dss_one (ds_ret (dv 2)))))
theorem sc_at_by : FnScope ["poly", "value", "found", "item"] ["poly", "value"] (defScope (topS 21)) := ⟨rfl, rfl, rfl, by decide +kernel, rfl, by decide +kernel, by decide +kernel⟩
theorem kn_at_by (T : Tx K mg) : Kn P w K mg base "at_by" 1 ["poly", "value"] (topS 21) (sp_at_by mg) := by
  obtain ⟨f, fd, hm, F⟩ := T.d_at_by
  refine kn_mk (N := ["poly", "value", "found", "item"]) (p := p_at_by mg) F hm sc_at_by (len_at_by mg) (fun _ _ _ _ _ _ us hl => match us, hl with | [_, _], _ => rfl) (fun cdv A outer s H E da hr tk => ?_) (hp_at_by mg)
  exact (dss_cons (ds_set 2 sc_at_by.nd d_int)
    (dss_cons (ds_for (passes_of rfl) rfl (di_seq (d_revT (dv 0))) (dg_name 3 sc_at_by.nd) (dss_one (ds_set 2 sc_at_by.nd (d_add (d_mul (dv 2) (dv 1)) (dv 3)))))
    (dss_one (ds_ret (dv 2)))))
theorem sc_unlike_prime : FnScope ["one", "other", "prime"] ["one", "other"] (defScope (topS 22)) := ⟨rfl, rfl, rfl, by decide +kernel, rfl, by decide +kernel, by decide +kernel⟩
theorem kn_unlike_prime (T : Tx K mg) : Kn P w K mg base "unlike_prime" 4 ["one", "other"] (topS 22) (sp_unlike_prime mg) := by
  obtain ⟨f, fd, hm, F⟩ := T.d_unlike_prime
  refine kn_mk (N := ["one", "other", "prime"]) (p := p_unlike_prime mg) F hm sc_unlike_prime (len_unlike_prime mg) (fun _ _ _ _ _ _ us hl => match us, hl with | [_, _], _ => rfl) (fun cdv A outer s H E da hr tk => ?_) (hp_unlike_prime mg)
  exact (dss_cons (ds_if (dt_cmp (c_eq hr) (dv 0) (dv 1)) (dss_one (ds_ret d_non)) dss_nil)
    (dss_cons (ds_set 2 sc_unlike_prime.nd d_int)
    (dss_cons (ds_while (passes_of rfl) (dt_cmp (c_eq hr) (d_call (kn_at_by T) hr (by decide) tk (da_cons (dv 0) (da_cons (dv 2) da_nil))) (d_call (kn_at_by T) hr (by decide) tk (da_cons (dv 1) (da_cons (dv 2) da_nil)))) (dss_one (ds_set 2 sc_unlike_prime.nd (d_call (kn_next_prime T) hr (by decide) tk (da_cons (dv 2) da_nil)))))
    (dss_one (ds_ret (dv 2))))))
theorem sc_need_poly : FnScope ["poly"] ["poly"] (defScope (topS 23)) := ⟨rfl, rfl, rfl, by decide +kernel, rfl, by decide +kernel, by decide +kernel⟩
theorem kn_need_poly (T : Tx K mg) : Kn P w K mg base "need_poly" 3 ["poly"] (topS 23) (sp_need_poly mg) := by
  obtain ⟨f, fd, hm, F⟩ := T.d_need_poly
  refine kn_mk (N := ["poly"]) (p := p_need_poly mg) F hm sc_need_poly (len_need_poly mg) (fun _ _ _ _ _ _ us hl => match us, hl with | [_], _ => rfl) (fun cdv A outer s H E da hr tk => ?_) (hp_need_poly mg)
  exact (dss_one (ds_if (dt_not (dt_val (d_call (kn_is_poly_by T) hr (by decide) tk (da_cons (dv 0) da_nil)))) (dss_one (ds_raiseN rfl tk T.e_BadPoly)) dss_nil))
theorem sc_need_two : FnScope ["one", "other"] ["one", "other"] (defScope (topS 24)) := ⟨rfl, rfl, rfl, by decide +kernel, rfl, by decide +kernel, by decide +kernel⟩
theorem kn_need_two (T : Tx K mg) : Kn P w K mg base "need_two" 3 ["one", "other"] (topS 24) (sp_need_two mg) := by
  obtain ⟨f, fd, hm, F⟩ := T.d_need_two
  refine kn_mk (N := ["one", "other"]) (p := p_need_two mg) F hm sc_need_two (len_need_two mg) (fun _ _ _ _ _ _ us hl => match us, hl with | [_, _], _ => rfl) (fun cdv A outer s H E da hr tk => ?_) (hp_need_two mg)
  exact (dss_cons (ds_if (dt_not (dt_val (d_call (kn_is_poly_by T) hr (by decide) tk (da_cons (dv 0) da_nil)))) (dss_one (ds_raiseN rfl tk T.e_BadOne)) dss_nil)
    (dss_one (ds_if (dt_not (dt_val (d_call (kn_is_poly_by T) hr (by decide) tk (da_cons (dv 1) da_nil)))) (dss_one (ds_raiseN rfl tk T.e_BadOther)) dss_nil)))
theorem sc_is_poly : FnScope ["thing"] ["thing"] (defScope (topS 25)) := ⟨rfl, rfl, rfl, by decide +kernel, rfl, by decide +kernel, by decide +kernel⟩
theorem kn_is_poly (T : Tx K mg) : Kn P w K mg base "is_poly" 3 ["thing"] (topS 25) (sp_is_poly mg) := by
  obtain ⟨f, fd, hm, F⟩ := T.d_is_poly
  refine kn_mk (N := ["thing"]) (p := p_is_poly mg) F hm sc_is_poly (len_is_poly mg) (fun _ _ _ _ _ _ us hl => match us, hl with | [_], _ => rfl) (fun cdv A outer s H E da hr tk => ?_) (hp_is_poly mg)
  exact (dss_one (ds_ret (d_call (kn_is_poly_by T) hr (by decide) tk (da_cons (dv 0) da_nil))))
theorem sc_poly_at : FnScope ["poly", "value"] ["poly", "value"] (defScope (topS 26)) := ⟨rfl, rfl, rfl, by decide +kernel, rfl, by decide +kernel, by decide +kernel⟩
theorem kn_poly_at (T : Tx K mg) : Kn P w K mg base "poly_at" 4 ["poly", "value"] (topS 26) (sp_poly_at mg) := by
  obtain ⟨f, fd, hm, F⟩ := T.d_poly_at
  refine kn_mk (N := ["poly", "value"]) (p := p_poly_at mg) F hm sc_poly_at (len_poly_at mg) (fun _ _ _ _ _ _ us hl => match us, hl with | [_, _], _ => rfl) (fun cdv A outer s H E da hr tk => ?_) (hp_poly_at mg)
  exact (dss_cons (ds_expr (d_call (kn_need_poly T) hr (by decide) tk (da_cons (dv 0) da_nil)))
    (dss_cons (ds_if (dt_not (dt_val (d_call (kn_is_whole T) hr (by decide) tk (da_cons (dv 1) da_nil)))) (dss_one (ds_raiseN rfl tk T.e_BadValue)) dss_nil)
    (dss_one (ds_ret (d_call (kn_at_by T) hr (by decide) tk (da_cons (dv 0) (da_cons (dv 1) da_nil)))))))
theorem sc_poly_added : FnScope ["one", "other"] ["one", "other"] (defScope (topS 27)) := ⟨rfl, rfl, rfl, by decide +kernel, rfl, by decide +kernel, by decide +kernel⟩
theorem kn_poly_added (T : Tx K mg) : Kn P w K mg base "poly_added" 4 ["one", "other"] (topS 27) (sp_poly_added mg) := by
  obtain ⟨f, fd, hm, F⟩ := T.d_poly_added
  refine kn_mk (N := ["one", "other"]) (p := p_poly_added mg) F hm sc_poly_added (len_poly_added mg) (fun _ _ _ _ _ _ us hl => match us, hl with | [_, _], _ => rfl) (fun cdv A outer s H E da hr tk => ?_) (hp_poly_added mg)
  exact (dss_cons (ds_expr (d_call (kn_need_two T) hr (by decide) tk (da_cons (dv 0) (da_cons (dv 1) da_nil))))
    (dss_one (ds_ret (d_call (kn_added_by T) hr (by decide) tk (da_cons (dv 0) (da_cons (dv 1) da_nil))))))
theorem sc_poly_times : FnScope ["one", "other"] ["one", "other"] (defScope (topS 28)) := ⟨rfl, rfl, rfl, by decide +kernel, rfl, by decide +kernel, by decide +kernel⟩
theorem kn_poly_times (T : Tx K mg) : Kn P w K mg base "poly_times" 4 ["one", "other"] (topS 28) (sp_poly_times mg) := by
  obtain ⟨f, fd, hm, F⟩ := T.d_poly_times
  refine kn_mk (N := ["one", "other"]) (p := p_poly_times mg) F hm sc_poly_times (len_poly_times mg) (fun _ _ _ _ _ _ us hl => match us, hl with | [_, _], _ => rfl) (fun cdv A outer s H E da hr tk => ?_) (hp_poly_times mg)
  exact (dss_cons (ds_expr (d_call (kn_need_two T) hr (by decide) tk (da_cons (dv 0) (da_cons (dv 1) da_nil))))
    (dss_one (ds_ret (d_call (kn_times_by T) hr (by decide) tk (da_cons (dv 0) (da_cons (dv 1) da_nil))))))
theorem sc_poly_power : FnScope ["poly", "many"] ["poly", "many"] (defScope (topS 29)) := ⟨rfl, rfl, rfl, by decide +kernel, rfl, by decide +kernel, by decide +kernel⟩
theorem kn_poly_power (T : Tx K mg) : Kn P w K mg base "poly_power" 4 ["poly", "many"] (topS 29) (sp_poly_power mg) := by
  obtain ⟨f, fd, hm, F⟩ := T.d_poly_power
  refine kn_mk (N := ["poly", "many"]) (p := p_poly_power mg) F hm sc_poly_power (len_poly_power mg) (fun _ _ _ _ _ _ us hl => match us, hl with | [_, _], _ => rfl) (fun cdv A outer s H E da hr tk => ?_) (hp_poly_power mg)
  exact (dss_cons (ds_expr (d_call (kn_need_poly T) hr (by decide) tk (da_cons (dv 0) da_nil)))
    (dss_cons (ds_if (dt_not (dt_val (d_call (kn_is_within T) hr (by decide) tk (da_cons (dv 1) (da_cons d_int (da_cons (d_globI T.c_MOST_POWER) da_nil)))))) (dss_one (ds_raiseN rfl tk T.e_BadMany)) dss_nil)
    (dss_one (ds_ret (d_call (kn_power_by T) hr (by decide) tk (da_cons (dv 0) (da_cons (dv 1) da_nil)))))))
theorem sc_poly_parting : FnScope ["one", "other"] ["one", "other"] (defScope (topS 30)) := ⟨rfl, rfl, rfl, by decide +kernel, rfl, by decide +kernel, by decide +kernel⟩
theorem kn_poly_parting (T : Tx K mg) : Kn P w K mg base "poly_parting" 5 ["one", "other"] (topS 30) (sp_poly_parting mg) := by
  obtain ⟨f, fd, hm, F⟩ := T.d_poly_parting
  refine kn_mk (N := ["one", "other"]) (p := p_poly_parting mg) F hm sc_poly_parting (len_poly_parting mg) (fun _ _ _ _ _ _ us hl => match us, hl with | [_, _], _ => rfl) (fun cdv A outer s H E da hr tk => ?_) (hp_poly_parting mg)
  exact (dss_cons (ds_expr (d_call (kn_need_two T) hr (by decide) tk (da_cons (dv 0) (da_cons (dv 1) da_nil))))
    (dss_one (ds_ret (d_call (kn_unlike_prime T) hr (by decide) tk (da_cons (dv 0) (da_cons (dv 1) da_nil))))))
theorem sc_law_pick : FnScope ["draw", "items"] ["draw", "items"] (defScope (topS 35)) := ⟨rfl, rfl, rfl, by decide +kernel, rfl, by decide +kernel, by decide +kernel⟩
theorem kn_law_pick (T : Tx K mg) : Kn P w K mg base "_law_pick" 3 ["draw", "items"] (topS 35) (sp_law_pick mg) := by
  obtain ⟨f, fd, hm, F⟩ := T.d_law_pick
  refine kn_mk (N := ["draw", "items"]) (p := p_law_pick mg) F hm sc_law_pick (len_law_pick mg) (fun _ _ _ _ _ _ us hl => match us, hl with | [_, _], _ => rfl) (fun cdv A outer s H E da hr tk => ?_) (hp_law_pick mg)
  exact (dss_one (ds_ret (d_ix (dv 1) (d_call (kn_law_take T) hr (by decide) tk (da_cons (dv 0) (da_cons (d_len T.b.len (dv 1)) da_nil))))))
theorem sc_law_kinds : FnScope ["thing", "found", "line", "one", "key"] ["thing"] (defScope (topS 37)) := ⟨rfl, rfl, rfl, by decide +kernel, rfl, by decide +kernel, by decide +kernel⟩
theorem kn_law_kinds (T : Tx K mg) : Kn P w K mg base "_law_kinds" 1 ["thing"] (topS 37) (sp_law_kinds mg) := by
  obtain ⟨f, fd, hm, F⟩ := T.d_law_kinds
  refine kn_mk (N := ["thing", "found", "line", "one", "key"]) (p := p_law_kinds mg) F hm sc_law_kinds (len_law_kinds mg) (fun _ _ _ _ _ _ us hl => match us, hl with | [_], _ => rfl) (fun cdv A outer s H E da hr tk => ?_) (hp_law_kinds mg)
  exact (dss_cons (ds_par2 1 2 rfl sc_law_kinds.nd (d_lst da_nil) (d_lst (da_cons (dv 0) da_nil)))
    (dss_cons (ds_while (passes_of rfl) (dt_cmp (c_ne hr) (dv 2) (d_lst da_nil)) (dss_cons (ds_set 3 sc_law_kinds.nd (d_pop 2))
    (dss_one (ds_if (dw_or (dt_val (d_isi T.b.isinstance (dv 3) (d_cls T.b.bool (by decide +kernel)))) (dw_or1 (dt_cmp c_is (dv 3) d_non))).dt (dss_one (ds_expr (d_append 1 (d_repr T.b.repr (dv 3))))) (dss_one (ds_if (dt_val (d_isi T.b.isinstance (dv 3) (d_cls T.b.int (by decide +kernel)))) (dss_one (ds_expr (d_append 1 d_str))) (dss_one (ds_if (dt_val (d_isi T.b.isinstance (dv 3) (d_cls T.b.str (by decide +kernel)))) (dss_one (ds_expr (d_append 1 d_str))) (dss_one (ds_if (dw_or (dt_val (d_isi T.b.isinstance (dv 3) (d_cls T.b.list (by decide +kernel)))) (dw_or1 (dt_val (d_isi T.b.isinstance (dv 3) (d_cls T.b.tuple (by decide +kernel)))))).dt (dss_cons (ds_expr (d_append 1 (d_if (dt_val (d_isi T.b.isinstance (dv 3) (d_cls T.b.list (by decide +kernel)))) d_str d_str)))
    (dss_one (ds_set 2 sc_law_kinds.nd (d_add (dv 2) (d_list T.b.list (dv 3)))))) (dss_one (ds_if (dt_val (d_isi T.b.isinstance (dv 3) (d_cls T.b.dict (by decide +kernel)))) dss_never (dss_one (ds_expr (d_append 1 d_str)))))))))))))))
    (dss_one (ds_ret (dv 1)))))
theorem sc_law_says : FnScope ["told", "due"] ["told", "due"] (defScope (topS 38)) := ⟨rfl, rfl, rfl, by decide +kernel, rfl, by decide +kernel, by decide +kernel⟩
theorem kn_law_says (T : Tx K mg) : Kn P w K mg base "_law_says" 2 ["told", "due"] (topS 38) (sp_law_says mg) := by
  obtain ⟨f, fd, hm, F⟩ := T.d_law_says
  refine kn_mk (N := ["told", "due"]) (p := p_law_says mg) F hm sc_law_says (len_law_says mg) (fun _ _ _ _ _ _ us hl => match us, hl with | [_, _], _ => rfl) (fun cdv A outer s H E da hr tk => ?_) (hp_law_says mg)
  exact (dss_one (ds_ret (d_and (d_cmp (c_eq hr) (d_call (kn_law_kinds T) hr (by decide) tk (da_cons (dv 0) da_nil)) (d_call (kn_law_kinds T) hr (by decide) tk (da_cons (dv 1) da_nil))) (d_one (d_cmp (c_eq hr) (dv 0) (dv 1))))))
theorem sc_law_is_number : FnScope ["thing"] ["thing"] (defScope (topS 39)) := ⟨rfl, rfl, rfl, by decide +kernel, rfl, by decide +kernel, by decide +kernel⟩
theorem kn_law_is_number (T : Tx K mg) : Kn P w K mg base "_law_is_number" 1 ["thing"] (topS 39) (sp_law_is_number mg) := by
  obtain ⟨f, fd, hm, F⟩ := T.d_law_is_number
  refine kn_mk (N := ["thing"]) (p := p_law_is_number mg) F hm sc_law_is_number (len_law_is_number mg) (fun _ _ _ _ _ _ us hl => match us, hl with | [_], _ => rfl) (fun cdv A outer s H E da hr tk => ?_) (hp_law_is_number mg)
  exact (dss_one (ds_ret (d_and (d_isi T.b.isinstance (dv 0) (d_cls T.b.int (by decide +kernel))) (d_one (d_not (d_isi T.b.isinstance (dv 0) (d_cls T.b.bool (by decide +kernel))))))))
theorem sc_law_odd : FnScope ["draw"] ["draw"] (defScope (topS 40)) := ⟨rfl, rfl, rfl, by decide +kernel, rfl, by decide +kernel, by decide +kernel⟩
theorem kn_law_odd (T : Tx K mg) : Kn P w K mg base "_law_odd" 4 ["draw"] (topS 40) (sp_law_odd mg) := by
  obtain ⟨f, fd, hm, F⟩ := T.d_law_odd
  refine kn_mk (N := ["draw"]) (p := p_law_odd mg) F hm sc_law_odd (len_law_odd mg) (fun _ _ _ _ _ _ us hl => match us, hl with | [_], _ => rfl) (fun cdv A outer s H E da hr tk => ?_) (hp_law_odd mg)
  exact (dss_one (ds_ret (d_call (kn_law_pick T) hr (by decide) tk (da_cons (dv 0) (da_cons (d_lst (da_cons d_non (da_cons d_bl (da_cons (d_neg d_int) (da_cons d_str (da_cons (d_tup da_nil) (da_cons (d_lst da_nil) (da_cons d_dict0 (da_cons (d_tup (da_cons d_int da_nil)) (da_cons (d_tup (da_cons d_int (da_cons d_int da_nil))) (da_cons (d_tup (da_cons d_bl da_nil)) (da_cons (d_lst (da_cons d_int da_nil)) (da_cons (d_tup (da_cons (d_tup (da_cons d_int da_nil)) da_nil)) (da_cons (d_tup (da_cons d_str da_nil)) (da_cons (d_tup (da_cons (d_tup (da_cons d_int da_nil)) (da_cons (d_tup (da_cons d_int da_nil)) da_nil))) (da_cons d_int (da_cons d_str (da_cons (d_tup (da_cons (d_tup (da_cons (d_tup (da_cons d_int da_nil)) da_nil)) (da_cons (d_tup (da_cons (d_tup (da_cons d_int da_nil)) da_nil)) da_nil))) da_nil)))))))))))))))))) da_nil)))))
theorem sc_law_number : FnScope ["draw", "low", "high"] ["draw", "low", "high"] (defScope (topS 41)) := ⟨rfl, rfl, rfl, by decide +kernel, rfl, by decide +kernel, by decide +kernel⟩
theorem kn_law_number (T : Tx K mg) : Kn P w K mg base "_law_number" 4 ["draw", "low", "high"] (topS 41) (sp_law_number mg) := by
  obtain ⟨f, fd, hm, F⟩ := T.d_law_number
  refine kn_mk (N := ["draw", "low", "high"]) (p := p_law_number mg) F hm sc_law_number (len_law_number mg) (fun _ _ _ _ _ _ us hl => match us, hl with | [_, _, _], _ => rfl) (fun cdv A outer s H E da hr tk => ?_) (hp_law_number mg)
  exact (dss_one (ds_ret (d_call (kn_law_pick T) hr (by decide) tk (da_cons (dv 0) (da_cons (d_lst (da_cons d_non (da_cons (d_sub (dv 1) d_int) (da_cons (d_add (dv 2) d_int) (da_cons d_str (da_cons d_bl (da_cons (d_tup (da_cons (dv 1) da_nil)) (da_cons (d_lst da_nil) da_nil)))))))) da_nil)))))
theorem sc_law_trim : FnScope ["line", "found", "lap"] ["line"] (defScope (topS 42)) := ⟨rfl, rfl, rfl, by decide +kernel, rfl, by decide +kernel, by decide +kernel⟩
theorem kn_law_trim (T : Tx K mg) : Kn P w K mg base "_law_trim" 1 ["line"] (topS 42) (sp_law_trim mg) := by
  obtain ⟨f, fd, hm, F⟩ := T.d_law_trim
  refine kn_mk (N := ["line", "found", "lap"]) (p := p_law_trim mg) F hm sc_law_trim (len_law_trim mg) (fun _ _ _ _ _ _ us hl => match us, hl with | [_], _ => rfl) (fun cdv A outer s H E da hr tk => ?_) (hp_law_trim mg)
  exact (dss_cons (ds_set 1 sc_law_trim.nd (d_list T.b.list (dv 0)))
    (dss_cons (ds_for (passes_of rfl) rfl (di_rng1 T.b.range (da_cons (d_len T.b.len (dv 0)) da_nil)) (dg_name 2 sc_law_trim.nd) (dss_cons (ds_if (dw_or (dt_cmp (c_eq hr) (dv 1) (d_lst da_nil)) (dw_or1 (dt_cmp (c_ne hr) (d_ix (dv 1) (d_neg d_int)) d_int))).dt (dss_one ds_break) dss_nil)
    (dss_one (ds_set 1 sc_law_trim.nd (d_sl (dv 1) dp_no (dp_some (d_neg d_int)))))))
    (dss_one (ds_ret (d_tuple T.b.tuple (dv 1))))))
theorem sc_law_plus : FnScope ["one", "other", "size", "at"] ["one", "other"] (defScope (topS 43)) := ⟨rfl, rfl, rfl, by decide +kernel, rfl, by decide +kernel, by decide +kernel⟩
theorem kn_law_plus (T : Tx K mg) : Kn P w K mg base "_law_plus" 2 ["one", "other"] (topS 43) (sp_law_plus mg) := by
  obtain ⟨f, fd, hm, F⟩ := T.d_law_plus
  refine kn_mk (N := ["one", "other", "size", "at"]) (p := p_law_plus mg) F hm sc_law_plus (len_law_plus mg) (fun _ _ _ _ _ _ us hl => match us, hl with | [_, _], _ => rfl) (fun cdv A outer s H E da hr tk => ?_) (hp_law_plus mg)
  exact (dss_cons (ds_set 2 sc_law_plus.nd (d_max2 rfl T.b.max (d_len T.b.len (dv 0)) (d_len T.b.len (dv 1))))
    (dss_one (ds_ret (d_call (kn_law_trim T) hr (by decide) tk (da_cons (d_lc (own := [("at", 3)]) rfl sc_law_plus.nd (di_rng1 T.b.range (da_cons (dv 2) da_nil)) (N := ["one", "other", "size", "at"]) (sc := defScope (topS 43)) (by decide +kernel) (fun _ _ _ _ _ => (dg_name 3 sc_law_plus.nd)) (gv_N (by decide)) (fun _ _ _ _ _ => (d_add (d_if (dt_cmp c_lt (dv 3) (d_len T.b.len (dv 0))) (d_ix (dv 0) (dv 3)) d_int) (d_if (dt_cmp c_lt (dv 3) (d_len T.b.len (dv 1))) (d_ix (dv 1) (dv 3)) d_int)))) da_nil)))))
theorem sc_law_product : FnScope ["one", "other", "found", "some", "at", "item", "late", "more"] ["one", "other"] (defScope (topS 44)) := ⟨rfl, rfl, rfl, by decide +kernel, rfl, by decide +kernel, by decide +kernel⟩
theorem kn_law_product (T : Tx K mg) : Kn P w K mg base "_law_product" 2 ["one", "other"] (topS 44) (sp_law_product mg) := by
  obtain ⟨f, fd, hm, F⟩ := T.d_law_product
  refine kn_mk (N := ["one", "other", "found", "some", "at", "item", "late", "more"]) (p := p_law_product mg) F hm sc_law_product (len_law_product mg) (fun _ _ _ _ _ _ us hl => match us, hl with | [_, _], _ => rfl) (fun cdv A outer s H E da hr tk => ?_) (hp_law_product mg)
  exact (dss_cons (ds_par2 2 3 rfl sc_law_product.nd (d_mul (d_lst (da_cons d_int da_nil)) (d_add (d_len T.b.len (dv 0)) (d_len T.b.len (dv 1)))) (d_lcIf (own := [("late", 6), ("more", 7)]) rfl sc_law_product.nd (di_enum T.b.enumerate (da_cons (dv 1) da_nil)) (N := ["one", "other", "found", "some", "at", "item", "late", "more"]) (sc := defScope (topS 44)) (by decide +kernel) (fun _ _ _ _ _ => (dg_tup rfl (dgs_cons (dg_name 6 sc_law_product.nd) (dgs_cons (dg_name 7 sc_law_product.nd) dgs_nil)))) (gv_T (gvs_N (by decide) (gvs_N (by decide) gvs_nil))) (fun _ _ _ _ _ => (dt_cmp (c_ne hr) (dv 7) d_int)) (fun _ _ _ _ _ => (dv 6))))
    (dss_cons (ds_for (passes_of rfl) rfl (di_enum T.b.enumerate (da_cons (dv 0) da_nil)) (dg_tup rfl (dgs_cons (dg_name 4 sc_law_product.nd) (dgs_cons (dg_name 5 sc_law_product.nd) dgs_nil))) (dss_one (ds_if (dt_cmp (c_ne hr) (dv 5) d_int) (dss_one (ds_for (passes_of rfl) rfl (di_seq (dv 3)) (dg_name 6 sc_law_product.nd) (dss_one (ds_setIx 2 (d_add (d_ix (dv 2) (d_add (dv 4) (dv 6))) (d_mul (dv 5) (d_ix (dv 1) (dv 6)))) (d_add (dv 4) (dv 6)))))) dss_nil)))
    (dss_one (ds_ret (d_call (kn_law_trim T) hr (by decide) tk (da_cons (dv 2) da_nil))))))
theorem sc_law_at : FnScope ["poly", "value", "found", "item"] ["poly", "value"] (defScope (topS 45)) := ⟨rfl, rfl, rfl, by decide +kernel, rfl, by decide +kernel, by decide +kernel⟩
theorem kn_law_at (T : Tx K mg) : Kn P w K mg base "_law_at" 1 ["poly", "value"] (topS 45) (sp_law_at mg) := by
  obtain ⟨f, fd, hm, F⟩ := T.d_law_at
  refine kn_mk (N := ["poly", "value", "found", "item"]) (p := p_law_at mg) F hm sc_law_at (len_law_at mg) (fun _ _ _ _ _ _ us hl => match us, hl with | [_, _], _ => rfl) (fun cdv A outer s H E da hr tk => ?_) (hp_law_at mg)
  exact (dss_cons (ds_set 2 sc_law_at.nd d_int)
    (dss_cons (ds_for (passes_of rfl) rfl (di_seq (d_revT (dv 0))) (dg_name 3 sc_law_at.nd) (dss_one (ds_set 2 sc_law_at.nd (d_add (d_mul (dv 2) (dv 1)) (dv 3)))))
    (dss_one (ds_ret (dv 2)))))
theorem sc_law_poly : FnScope ["draw", "most", "great", "lap"] ["draw", "most"] (defScope (topS 46)) := ⟨rfl, rfl, rfl, by decide +kernel, rfl, by decide +kernel, by decide +kernel⟩
theorem kn_law_poly (T : Tx K mg) : Kn P w K mg base "_law_poly" 4 ["draw", "most"] (topS 46) (sp_law_poly mg) := by
  obtain ⟨f, fd, hm, F⟩ := T.d_law_poly
  refine kn_mk (N := ["draw", "most", "great", "lap"]) (p := p_law_poly mg) F hm sc_law_poly (len_law_poly mg) (fun _ _ _ _ _ _ us hl => match us, hl with | [_, _], _ => rfl) (fun cdv A outer s H E da hr tk => ?_) (hp_law_poly mg)
  exact (dss_cons (ds_set 2 sc_law_poly.nd (d_call (kn_law_pick T) hr (by decide) tk (da_cons (dv 0) (da_cons (d_lst (da_cons d_int (da_cons d_int (da_cons (d_pow d_int d_int) da_nil)))) da_nil))))
    (dss_one (ds_ret (d_call (kn_law_trim T) hr (by decide) tk (da_cons (d_lc (own := [("lap", 3)]) rfl sc_law_poly.nd (di_rng1 T.b.range (da_cons (d_call (kn_law_take T) hr (by decide) tk (da_cons (dv 0) (da_cons (d_add (dv 1) d_int) da_nil))) da_nil)) (N := ["draw", "most", "great", "lap"]) (sc := defScope (topS 46)) (by decide +kernel) (fun _ _ _ _ _ => (dg_name 3 sc_law_poly.nd)) (gv_N (by decide)) (fun _ _ _ _ _ => (d_sub (d_call (kn_law_take T) hr (by decide) L2.takes0 (da_cons (dv 0) (da_cons (d_add (d_mul d_int (dv 2)) d_int) da_nil))) (dv 2)))) da_nil)))))
theorem sc_law_is_poly : FnScope ["thing", "item"] ["thing"] (defScope (topS 47)) := ⟨rfl, rfl, rfl, by decide +kernel, rfl, by decide +kernel, by decide +kernel⟩
theorem kn_law_is_poly (T : Tx K mg) : Kn P w K mg base "_law_is_poly" 2 ["thing"] (topS 47) (sp_law_is_poly mg) := by
  obtain ⟨f, fd, hm, F⟩ := T.d_law_is_poly
  refine kn_mk (N := ["thing", "item"]) (p := p_law_is_poly mg) F hm sc_law_is_poly (len_law_is_poly mg) (fun _ _ _ _ _ _ us hl => match us, hl with | [_], _ => rfl) (fun cdv A outer s H E da hr tk => ?_) (hp_law_is_poly mg)
  exact (dss_cons (ds_if (dw_or (dt_not (dt_val (d_isi T.b.isinstance (dv 0) (d_cls T.b.tuple (by decide +kernel))))) (dw_or (dt_cmp c_gt (d_len T.b.len (dv 0)) d_int) (dw_or1 (dt_cmp (c_ne hr) (d_lcIf (own := [("item", 1)]) rfl sc_law_is_poly.nd (di_seq (dv 0)) (N := ["thing", "item"]) (sc := defScope (topS 47)) (by decide +kernel) (fun _ _ _ _ _ => (dg_name 1 sc_law_is_poly.nd)) (gv_N (by decide)) (fun _ _ _ _ _ => (dt_not (dt_val (d_call (kn_law_is_number T) hr (by decide) L2.takes0 (da_cons (dv 1) da_nil))))) (fun _ _ _ _ _ => (dv 1))) (d_lst da_nil))))).dt (dss_one (ds_ret d_bl)) dss_nil)
    (dss_one (ds_ret (d_or (d_cmp (c_eq hr) (dv 0) (d_tup da_nil)) (d_one (d_cmp (c_ne hr) (d_ix (dv 0) (d_neg d_int)) d_int))))))
theorem sc_law_right : FnScope ["draw", "one", "other", "value", "many", "power", "lap", "told", "due", "late", "primes", "first", "thing", "right", "prime"] ["draw"] (defScope (topS 48)) := ⟨rfl, rfl, rfl, by decide +kernel, rfl, by decide +kernel, by decide +kernel⟩
theorem kn_law_right (T : Tx K mg) : Kn P w K mg base "_law_right" 6 ["draw"] (topS 48) (sp_law_right mg) := by
  obtain ⟨f, fd, hm, F⟩ := T.d_law_right
  refine kn_mk (N := ["draw", "one", "other", "value", "many", "power", "lap", "told", "due", "late", "primes", "first", "thing", "right", "prime"]) (p := p_law_right mg) F hm sc_law_right (len_law_right mg) (fun _ _ _ _ _ _ us hl => match us, hl with | [_], _ => rfl) (fun cdv A outer s H E da hr tk => ?_) (hp_law_right mg)
  exact (dss_cons (ds_asg (d_tup (da_cons (d_call (kn_law_poly T) hr (by decide) tk (da_cons (dv 0) (da_cons d_int da_nil))) (da_cons (d_call (kn_law_poly T) hr (by decide) tk (da_cons (dv 0) (da_cons d_int da_nil))) da_nil))) (dg_tup rfl (dgs_cons (dg_name 1 sc_law_right.nd) (dgs_cons (dg_name 2 sc_law_right.nd) dgs_nil))))
    (dss_cons (ds_par2 3 4 rfl sc_law_right.nd (d_call (kn_law_pick T) hr (by decide) tk (da_cons (dv 0) (da_cons (d_lst (da_cons d_int (da_cons d_int (da_cons (d_neg d_int) (da_cons d_int (da_cons (d_sub (d_call (kn_law_take T) hr (by decide) tk (da_cons (dv 0) (da_cons (d_pow d_int d_int) da_nil))) (d_pow d_int d_int)) da_nil)))))) da_nil))) (d_call (kn_law_take T) hr (by decide) tk (da_cons (dv 0) (da_cons d_int da_nil))))
    (dss_cons (ds_set 5 sc_law_right.nd (d_tup (da_cons d_int da_nil)))
    (dss_cons (ds_for (passes_of rfl) rfl (di_rng1 T.b.range (da_cons (dv 4) da_nil)) (dg_name 6 sc_law_right.nd) (dss_one (ds_set 5 sc_law_right.nd (d_call (kn_law_product T) hr (by decide) tk (da_cons (dv 5) (da_cons (dv 1) da_nil))))))
    (dss_cons (ds_set 7 sc_law_right.nd (d_lst (da_cons (d_call (kn_poly_at T) hr (by decide) tk (da_cons (dv 1) (da_cons (dv 3) da_nil))) (da_cons (d_kw0 [1, 0] 2 (kn_poly_at T) hr (by decide) tk (dk_cons (dv 3) (dk_cons (dv 1) dk_nil)) (fun _ _ _ _ _ _ ws hl => match ws, hl with | [_, _], _ => rfl)) (da_cons (d_call (kn_poly_added T) hr (by decide) tk (da_cons (dv 1) (da_cons (dv 2) da_nil))) (da_cons (d_kw0 [1, 0] 2 (kn_poly_added T) hr (by decide) tk (dk_cons (dv 2) (dk_cons (dv 1) dk_nil)) (fun _ _ _ _ _ _ ws hl => match ws, hl with | [_, _], _ => rfl)) (da_cons (d_call (kn_poly_times T) hr (by decide) tk (da_cons (dv 1) (da_cons (dv 2) da_nil))) (da_cons (d_kw0 [1, 0] 2 (kn_poly_times T) hr (by decide) tk (dk_cons (dv 2) (dk_cons (dv 1) dk_nil)) (fun _ _ _ _ _ _ ws hl => match ws, hl with | [_, _], _ => rfl)) da_nil))))))))
    (dss_cons (ds_set 8 sc_law_right.nd (d_add (d_add (d_mul (d_lst (da_cons (d_call (kn_law_at T) hr (by decide) tk (da_cons (dv 1) (da_cons (dv 3) da_nil))) da_nil)) d_int) (d_mul (d_lst (da_cons (d_call (kn_law_plus T) hr (by decide) tk (da_cons (dv 1) (da_cons (dv 2) da_nil))) da_nil)) d_int)) (d_mul (d_lst (da_cons (d_call (kn_law_product T) hr (by decide) tk (da_cons (dv 1) (da_cons (dv 2) da_nil))) da_nil)) d_int)))
    (dss_cons (ds_if (dw_or (dt_not (dt_val (d_call (kn_law_says T) hr (by decide) tk (da_cons (dv 7) (da_cons (dv 8) da_nil))))) (dw_or1 (dt_not (dt_val (d_call (kn_law_says T) hr (by decide) tk (da_cons (d_lst (da_cons (d_call (kn_poly_power T) hr (by decide) tk (da_cons (dv 1) (da_cons (dv 4) da_nil))) (da_cons (d_kw0 [1, 0] 2 (kn_poly_power T) hr (by decide) tk (dk_cons (dv 4) (dk_cons (dv 1) dk_nil)) (fun _ _ _ _ _ _ ws hl => match ws, hl with | [_, _], _ => rfl)) da_nil))) (da_cons (d_lst (da_cons (dv 5) (da_cons (dv 5) da_nil))) da_nil))))))).dt (dss_one (ds_ret d_bl)) dss_nil)
    (dss_cons (ds_set 9 sc_law_right.nd (d_call (kn_law_pick T) hr (by decide) tk (da_cons (dv 0) (da_cons (d_lst (da_cons (dv 1) (da_cons (dv 2) (da_cons (d_call (kn_law_plus T) hr (by decide) tk (da_cons (dv 1) (da_cons (d_call (kn_law_product T) hr (by decide) tk (da_cons (d_tup (da_cons (d_neg d_int) (da_cons d_int da_nil))) (da_cons (d_call (kn_law_product T) hr (by decide) tk (da_cons (d_tup (da_cons (d_neg d_int) (da_cons d_int da_nil))) (da_cons (dv 2) da_nil))) da_nil))) da_nil))) (da_cons (d_call (kn_law_plus T) hr (by decide) tk (da_cons (dv 1) (da_cons (d_tup (da_cons d_int (da_cons (d_neg d_int) (da_cons d_int da_nil)))) da_nil))) da_nil))))) da_nil))))
    (dss_cons (ds_set 10 sc_law_right.nd (d_lst (da_cons d_int (da_cons d_int (da_cons d_int (da_cons d_int (da_cons d_int (da_cons d_int (da_cons d_int (da_cons d_int (da_cons d_int (da_cons d_int (da_cons d_int (da_cons d_int da_nil))))))))))))))
    (dss_cons (ds_set 11 sc_law_right.nd (d_ix (d_add (d_lcIf (own := [("prime", 14)]) rfl sc_law_right.nd (di_seq (dv 10)) (N := ["draw", "one", "other", "value", "many", "power", "lap", "told", "due", "late", "primes", "first", "thing", "right", "prime"]) (sc := defScope (topS 48)) (by decide +kernel) (fun _ _ _ _ _ => (dg_name 14 sc_law_right.nd)) (gv_N (by decide)) (fun _ _ _ _ _ => (dt_cmp (c_ne hr) (d_call (kn_law_at T) hr (by decide) L2.takes0 (da_cons (dv 1) (da_cons (dv 14) da_nil))) (d_call (kn_law_at T) hr (by decide) L2.takes0 (da_cons (dv 9) (da_cons (dv 14) da_nil))))) (fun _ _ _ _ _ => (dv 14))) (d_lst (da_cons d_non da_nil))) d_int))
    (dss_cons (ds_if (dt_not (dt_val (d_call (kn_law_says T) hr (by decide) tk (da_cons (d_lst (da_cons (d_call (kn_poly_parting T) hr (by decide) tk (da_cons (dv 1) (da_cons (dv 9) da_nil))) (da_cons (d_kw0 [1, 0] 2 (kn_poly_parting T) hr (by decide) tk (dk_cons (dv 9) (dk_cons (dv 1) dk_nil)) (fun _ _ _ _ _ _ ws hl => match ws, hl with | [_, _], _ => rfl)) da_nil))) (da_cons (d_lst (da_cons (dv 11) (da_cons (dv 11) da_nil))) da_nil))))) (dss_one (ds_ret d_bl)) dss_nil)
    (dss_cons (ds_for (passes_of rfl) rfl (di_seq (d_lst (da_cons (dv 1) (da_cons (d_list T.b.list (dv 1)) (da_cons (d_add (dv 1) (d_tup (da_cons d_int da_nil))) (da_cons (d_add (dv 1) (d_tup (da_cons d_bl da_nil))) (da_cons (d_add (dv 1) (d_tup (da_cons d_non da_nil))) (da_cons (d_mul (d_tup (da_cons d_int da_nil)) d_int) (da_cons (d_mul (d_tup (da_cons d_int da_nil)) d_int) (da_cons (d_tup (da_cons d_int da_nil)) (da_cons (d_call (kn_law_odd T) hr (by decide) tk (da_cons (dv 0) da_nil)) da_nil))))))))))) (dg_name 12 sc_law_right.nd) (dss_cons (ds_set 13 sc_law_right.nd (d_call (kn_law_is_poly T) hr (by decide) tk (da_cons (dv 12) da_nil)))
    (dss_one (ds_if (dt_not (dt_val (d_call (kn_law_says T) hr (by decide) tk (da_cons (d_lst (da_cons (d_call (kn_is_poly T) hr (by decide) tk (da_cons (dv 12) da_nil)) (da_cons (d_kw0 [0] 1 (kn_is_poly T) hr (by decide) tk (dk_cons (dv 12) dk_nil) (fun _ _ _ _ _ _ ws hl => match ws, hl with | [_], _ => rfl)) da_nil))) (da_cons (d_lst (da_cons (dv 13) (da_cons (dv 13) da_nil))) da_nil))))) (dss_one (ds_ret d_bl)) dss_nil))))
    (dss_one (ds_ret d_bl))))))))))))))
theorem sc_law : FnScope ["script", "draw", "lap", "wrong", "errors", "told", "work"] ["script"] (defScope (topS 49)) := ⟨rfl, rfl, rfl, by decide +kernel, rfl, by decide +kernel, by decide +kernel⟩
theorem fn_law {cL PL : Addr} (T : Tx K mg) (TB : LamX.TabB base mg cL PL) {f : Addr} {fd : FuncData} (F : FunD K "law" "law" (defArgs (topS 49)) (defBody (topS 49)) (defScope (topS 49)) [] [] f fd) (hc : ∀ oc od osl fd', K.lookup f = some ⟨oc, od, .func fd', osl⟩ → ∀ c', fd'.code = .ref c' → c' = cL)
    (hp : ∀ a ns, ScrB ns → p_law mg PL ⟨some a, lawT PL⟩ lawEnds (lawStart 7 a ns)) : FnOk P w K mg base (L2.CX P w) 9 f fd ["script"] (spLaw K (lawT PL)) := by
  obtain ⟨g, gd, hm, G⟩ := T.d_law_begun
  have hb : L2.Binds K gd ["script"] [] := G.binds (fun _ _ _ _ _ _ us hl => match us, hl with | [_], _ => rfl)
  refine law_fn (T := lawT PL) (p := p_law mg PL) (c := cL) F hc sc_law rfl rfl (fun A outer s H E hr => ?_) (fun A outer s H E a hr tk => ?_) hp
  · exact ps_set (i := 1) sc_law.nd rfl (by first | exact .inl rfl | exact .inr rfl) (pe_callS (fn_begun (k := 0) T.b G) (hr.mono (by decide)) rfl hm G.kp hb (fun σ => passAt (takes_of rfl rfl rfl rfl) σ) (pa_cons (pe_var (i := 0) rfl (by first | exact .inl rfl | exact .inr (.inl rfl))) pa_nil))
  · exact (dss_cons (ds_for (passes_of rfl) rfl (di_rng1 T.b.range (da_cons (d_add d_int (d_min2 rfl T.b.min (d_len T.b.len (dv 0)) d_int)) da_nil)) (dg_name 2 sc_law.nd) (dss_one (ds_if (dt_not (dt_val (d_call (kn_law_right T) hr (by decide) tk (da_cons (dv 1) da_nil)))) (dss_one (ds_ret d_bl)) dss_nil)))
    (dss_cons (ds_set 3 sc_law.nd (d_call (kn_law_pick T) hr (by decide) tk (da_cons (dv 1) (da_cons (d_lst (da_cons d_non (da_cons (d_tup (da_cons d_int da_nil)) (da_cons (d_lst (da_cons d_int da_nil)) (da_cons (d_tup (da_cons d_int (da_cons d_int da_nil))) (da_cons (d_tup (da_cons d_bl da_nil)) (da_cons (d_mul (d_tup (da_cons d_int da_nil)) d_int) (da_cons d_str da_nil)))))))) da_nil))))
    (dss_cons (ds_setLc 4 (own := [("work", 6)]) rfl sc_law.nd (di_seq (d_lst (da_cons (d_globN (by rfl) T.r_poly_at) (da_cons (d_globN (by rfl) T.r_poly_power) da_nil)))) (N := ["script", "draw", "lap", "wrong", "errors", "told", "work"]) (sc := defScope (topS 49)) (by decide +kernel) (fun _ _ _ _ _ => (dg_name 6 sc_law.nd)) (gv_N (by decide)) (fun _ _ _ _ _ => (d_caught (c := cL) (P := PL) (k := 6) (q := "law.<locals>.<lambda>") T.cat TB rfl hr (by decide) (LamX.lamS_by (by kernel_rfl)) (fun A outer s H E f c hr tk => (d_callV 6 (cs := [("poly_at", 2, sp_poly_at mg), ("poly_power", 2, sp_poly_power mg)]) (fun c hc => by simp only [List.mem_cons, List.not_mem_nil, or_false] at hc; rcases hc with rfl | rfl <;> first | exact ⟨_, _, _, by decide, rfl, kn_poly_at T⟩ | exact ⟨_, _, _, by decide, rfl, kn_poly_power T⟩) hr tk (da_cons (dv 3) (da_cons d_non da_nil)))))) (sw_true rfl rfl rfl (by decide +kernel)))
    (dss_cons (ds_expr (d_append 4 (d_caught (c := cL) (P := PL) (k := 6) (q := "law.<locals>.<lambda>") T.cat TB rfl hr (by decide) (LamX.lamS_by (by kernel_rfl)) (fun A outer s H E f c hr tk => (d_call (kn_poly_at T) hr (by decide) tk (da_cons (d_tup (da_cons d_int da_nil)) (da_cons (d_call (kn_law_pick T) hr (by decide) tk (da_cons (dv 1) (da_cons (d_lst (da_cons d_non (da_cons d_bl (da_cons d_str da_nil)))) da_nil))) da_nil)))))))
    (dss_cons (ds_expr (d_append 4 (d_caught (c := cL) (P := PL) (k := 6) (q := "law.<locals>.<lambda>") T.cat TB rfl hr (by decide) (LamX.lamS_by (by kernel_rfl)) (fun A outer s H E f c hr tk => (d_call (kn_poly_added T) hr (by decide) tk (da_cons (dv 3) (da_cons d_non da_nil)))))))
    (dss_cons (ds_expr (d_append 4 (d_caught (c := cL) (P := PL) (k := 6) (q := "law.<locals>.<lambda>") T.cat TB rfl hr (by decide) (LamX.lamS_by (by kernel_rfl)) (fun A outer s H E f c hr tk => (d_call (kn_poly_times T) hr (by decide) tk (da_cons (d_tup (da_cons d_int da_nil)) (da_cons (dv 3) da_nil)))))))
    (dss_cons (ds_expr (d_append 4 (d_caught (c := cL) (P := PL) (k := 6) (q := "law.<locals>.<lambda>") T.cat TB rfl hr (by decide) (LamX.lamS_by (by kernel_rfl)) (fun A outer s H E f c hr tk => (d_call (kn_poly_power T) hr (by decide) tk (da_cons (d_tup (da_cons d_int da_nil)) (da_cons (d_call (kn_law_number T) hr (by decide) tk (da_cons (dv 1) (da_cons d_int (da_cons d_int da_nil)))) da_nil)))))))
    (dss_cons (ds_expr (d_append 4 (d_caught (c := cL) (P := PL) (k := 6) (q := "law.<locals>.<lambda>") T.cat TB rfl hr (by decide) (LamX.lamS_by (by kernel_rfl)) (fun A outer s H E f c hr tk => (d_call (kn_poly_parting T) hr (by decide) tk (da_cons (dv 3) (da_cons d_non da_nil)))))))
    (dss_cons (ds_set 5 sc_law.nd (d_lst (da_cons (d_isiE (x := "BadPoly") T.k_BadPoly T.b.isinstance (d_ix (dv 4) d_int) (d_globN (by rfl) T.r_BadPoly)) (da_cons (d_isiE (x := "BadPoly") T.k_BadPoly T.b.isinstance (d_ix (dv 4) d_int) (d_globN (by rfl) T.r_BadPoly)) (da_cons (d_isiE (x := "BadValue") T.k_BadValue T.b.isinstance (d_ix (dv 4) d_int) (d_globN (by rfl) T.r_BadValue)) (da_cons (d_isiE (x := "BadOne") T.k_BadOne T.b.isinstance (d_ix (dv 4) d_int) (d_globN (by rfl) T.r_BadOne)) (da_cons (d_isiE (x := "BadOther") T.k_BadOther T.b.isinstance (d_ix (dv 4) d_int) (d_globN (by rfl) T.r_BadOther)) da_nil)))))))
    (dss_cons (ds_set 5 sc_law.nd (d_add (dv 5) (d_lst (da_cons (d_isiE (x := "BadMany") T.k_BadMany T.b.isinstance (d_ix (dv 4) d_int) (d_globN (by rfl) T.r_BadMany)) da_nil))))
    (dss_cons (ds_if (dt_cmp (c_ne hr) (d_add (dv 5) (d_lst (da_cons (d_isiE (x := "BadOne") T.k_BadOne T.b.isinstance (d_ix (dv 4) d_int) (d_globN (by rfl) T.r_BadOne)) da_nil))) (d_mul (d_lst (da_cons d_bl da_nil)) d_int)) (dss_one (ds_ret d_bl)) dss_nil)
    (dss_cons (ds_set 5 sc_law.nd (d_lst (da_cons (d_call (kn_poly_times T) hr (by decide) tk (da_cons (d_tup (da_cons d_int (da_cons d_int da_nil))) (da_cons (d_tup (da_cons d_int (da_cons d_int da_nil))) da_nil))) (da_cons (d_call (kn_poly_parting T) hr (by decide) tk (da_cons (d_tup (da_cons d_int (da_cons (d_neg d_int) (da_cons d_int da_nil)))) (da_cons (d_tup da_nil) da_nil))) (da_cons (d_call (kn_poly_added T) hr (by decide) tk (da_cons (d_tup (da_cons d_int (da_cons d_int da_nil))) (da_cons (d_tup (da_cons d_int (da_cons (d_neg d_int) da_nil))) da_nil))) (da_cons (d_call (kn_poly_at T) hr (by decide) tk (da_cons (d_tup da_nil) (da_cons d_int da_nil))) (da_cons (d_call (kn_poly_power T) hr (by decide) tk (da_cons (d_tup (da_cons d_int (da_cons d_int da_nil))) (da_cons d_int da_nil))) (da_cons (d_call (kn_poly_power T) hr (by decide) tk (da_cons (d_tup da_nil) (da_cons d_int da_nil))) (da_cons (d_call (kn_poly_parting T) hr (by decide) tk (da_cons (d_tup (da_cons d_int da_nil)) (da_cons (d_tup (da_cons d_int da_nil)) da_nil))) (da_cons (d_call (kn_is_poly T) hr (by decide) tk (da_cons (d_tup da_nil) da_nil)) (da_cons (d_call (kn_is_poly T) hr (by decide) tk (da_cons (d_tup (da_cons d_int da_nil)) da_nil)) da_nil)))))))))))
    (dss_one (ds_ret (d_call (kn_law_says T) hr (by decide) tk (da_cons (dv 5) (da_cons (d_lst (da_cons (d_tup (da_cons d_int (da_cons d_int (da_cons d_int da_nil)))) (da_cons d_int (da_cons (d_tup (da_cons d_int da_nil)) (da_cons d_int (da_cons (d_tup (da_cons d_int (da_cons d_int (da_cons d_int (da_cons d_int da_nil))))) (da_cons (d_tup (da_cons d_int da_nil)) (da_cons d_non (da_cons d_bl (da_cons d_bl da_nil)))))))))) da_nil)))))))))))))))))
end
theorem tx_of {w : World} {h : Heap} {K : PySem.W.Frag} {mg : Str → Option Value} (cx : He.SaysX hfa hfn [] htf hex_ w h K) (X : K.In h) (G : h.Ns mainGlobals mg) : Tx K mg :=
  have c : He.SaysD hfa hfn K := cx.t.d
  have he : (errN.all fun x => excIB K (He.ga K x)) = true := cx.more
  { b := ⟨He.free_ok X G (c.facts (f := .free "abs") (memD (j := 56) (by rfl))), He.free_ok X G (c.facts (f := .free "all") (memD (j := 57) (by rfl))), He.free_ok X G (c.facts (f := .free "any") (memD (j := 58) (by rfl))), He.free_ok X G (c.facts (f := .free "bool") (memD (j := 59) (by rfl))), He.free_ok X G (c.facts (f := .free "dict") (memD (j := 60) (by rfl))), He.free_ok X G (c.facts (f := .free "enumerate") (memD (j := 61) (by rfl))), He.free_ok X G (c.facts (f := .free "int") (memD (j := 62) (by rfl))), He.free_ok X G (c.facts (f := .free "isinstance") (memD (j := 63) (by rfl))), He.free_ok X G (c.facts (f := .free "len") (memD (j := 64) (by rfl))), He.free_ok X G (c.facts (f := .free "list") (memD (j := 65) (by rfl))), He.free_ok X G (c.facts (f := .free "max") (memD (j := 66) (by rfl))), He.free_ok X G (c.facts (f := .free "min") (memD (j := 67) (by rfl))), He.free_ok X G (c.facts (f := .free "range") (memD (j := 68) (by rfl))), He.free_ok X G (c.facts (f := .free "repr") (memD (j := 69) (by rfl))), He.free_ok X G (c.facts (f := .free "sorted") (memD (j := 70) (by rfl))), He.free_ok X G (c.facts (f := .free "str") (memD (j := 71) (by rfl))), He.free_ok X G (c.facts (f := .free "sum") (memD (j := 72) (by rfl))), He.free_ok X G (c.facts (f := .free "tuple") (memD (j := 73) (by rfl))), He.free_ok X G (c.facts (f := .free "zip") (memD (j := 74) (by rfl)))⟩
    d_is_whole := fun_sayM c X G "is_whole" (topS 1) (memD (j := 0) (by rfl)) (memD (j := 0) (by rfl))
    r_is_whole := ⟨_, mg_says c X G (memD (j := 0) (by rfl))⟩
    d_is_within := fun_sayM c X G "is_within" (topS 2) (memD (j := 1) (by rfl)) (memD (j := 1) (by rfl))
    r_is_within := ⟨_, mg_says c X G (memD (j := 1) (by rfl))⟩
    d_split := fun_sayM c X G "split" (topS 3) (memD (j := 2) (by rfl)) (memD (j := 2) (by rfl))
    r_split := ⟨_, mg_says c X G (memD (j := 2) (by rfl))⟩
    d_is_prime := fun_sayM c X G "is_prime" (topS 4) (memD (j := 3) (by rfl)) (memD (j := 3) (by rfl))
    r_is_prime := ⟨_, mg_says c X G (memD (j := 3) (by rfl))⟩
    d_next_prime := fun_sayM c X G "next_prime" (topS 5) (memD (j := 4) (by rfl)) (memD (j := 4) (by rfl))
    r_next_prime := ⟨_, mg_says c X G (memD (j := 4) (by rfl))⟩
    d_is_poly_by := fun_sayM c X G "is_poly_by" (topS 16) (memD (j := 5) (by rfl)) (memD (j := 5) (by rfl))
    r_is_poly_by := ⟨_, mg_says c X G (memD (j := 5) (by rfl))⟩
    d_trimmed := fun_sayM c X G "trimmed" (topS 17) (memD (j := 6) (by rfl)) (memD (j := 6) (by rfl))
    r_trimmed := ⟨_, mg_says c X G (memD (j := 6) (by rfl))⟩
    d_added_by := fun_sayM c X G "added_by" (topS 18) (memD (j := 7) (by rfl)) (memD (j := 7) (by rfl))
    r_added_by := ⟨_, mg_says c X G (memD (j := 7) (by rfl))⟩
    d_times_by := fun_sayM c X G "times_by" (topS 19) (memD (j := 8) (by rfl)) (memD (j := 8) (by rfl))
    r_times_by := ⟨_, mg_says c X G (memD (j := 8) (by rfl))⟩
    d_power_by := fun_sayM c X G "power_by" (topS 20) (memD (j := 9) (by rfl)) (memD (j := 9) (by rfl))
    r_power_by := ⟨_, mg_says c X G (memD (j := 9) (by rfl))⟩
    d_at_by := fun_sayM c X G "at_by" (topS 21) (memD (j := 10) (by rfl)) (memD (j := 10) (by rfl))
    r_at_by := ⟨_, mg_says c X G (memD (j := 10) (by rfl))⟩
    d_unlike_prime := fun_sayM c X G "unlike_prime" (topS 22) (memD (j := 11) (by rfl)) (memD (j := 11) (by rfl))
    r_unlike_prime := ⟨_, mg_says c X G (memD (j := 11) (by rfl))⟩
    d_need_poly := fun_sayM c X G "need_poly" (topS 23) (memD (j := 12) (by rfl)) (memD (j := 12) (by rfl))
    r_need_poly := ⟨_, mg_says c X G (memD (j := 12) (by rfl))⟩
    d_need_two := fun_sayM c X G "need_two" (topS 24) (memD (j := 13) (by rfl)) (memD (j := 13) (by rfl))
    r_need_two := ⟨_, mg_says c X G (memD (j := 13) (by rfl))⟩
    d_is_poly := fun_sayM c X G "is_poly" (topS 25) (memD (j := 14) (by rfl)) (memD (j := 14) (by rfl))
    r_is_poly := ⟨_, mg_says c X G (memD (j := 14) (by rfl))⟩
    d_poly_at := fun_sayM c X G "poly_at" (topS 26) (memD (j := 15) (by rfl)) (memD (j := 15) (by rfl))
    r_poly_at := ⟨_, mg_says c X G (memD (j := 15) (by rfl))⟩
    d_poly_added := fun_sayM c X G "poly_added" (topS 27) (memD (j := 16) (by rfl)) (memD (j := 16) (by rfl))
    r_poly_added := ⟨_, mg_says c X G (memD (j := 16) (by rfl))⟩
    d_poly_times := fun_sayM c X G "poly_times" (topS 28) (memD (j := 17) (by rfl)) (memD (j := 17) (by rfl))
    r_poly_times := ⟨_, mg_says c X G (memD (j := 17) (by rfl))⟩
    d_poly_power := fun_sayM c X G "poly_power" (topS 29) (memD (j := 18) (by rfl)) (memD (j := 18) (by rfl))
    r_poly_power := ⟨_, mg_says c X G (memD (j := 18) (by rfl))⟩
    d_poly_parting := fun_sayM c X G "poly_parting" (topS 30) (memD (j := 19) (by rfl)) (memD (j := 19) (by rfl))
    r_poly_parting := ⟨_, mg_says c X G (memD (j := 19) (by rfl))⟩
    d_law_begun := fun_sayM c X G "_law_begun" (topS 32) (memD (j := 20) (by rfl)) (memD (j := 20) (by rfl))
    r_law_begun := ⟨_, mg_says c X G (memD (j := 20) (by rfl))⟩
    d_law_mixed := fun_sayM c X G "_law_mixed" (topS 33) (memD (j := 21) (by rfl)) (memD (j := 21) (by rfl))
    r_law_mixed := ⟨_, mg_says c X G (memD (j := 21) (by rfl))⟩
    d_law_take := fun_sayM c X G "_law_take" (topS 34) (memD (j := 22) (by rfl)) (memD (j := 22) (by rfl))
    r_law_take := ⟨_, mg_says c X G (memD (j := 22) (by rfl))⟩
    d_law_pick := fun_sayM c X G "_law_pick" (topS 35) (memD (j := 23) (by rfl)) (memD (j := 23) (by rfl))
    r_law_pick := ⟨_, mg_says c X G (memD (j := 23) (by rfl))⟩
    d_law_caught := fun_sayM c X G "_law_caught" (topS 36) (memD (j := 24) (by rfl)) (memD (j := 24) (by rfl))
    r_law_caught := ⟨_, mg_says c X G (memD (j := 24) (by rfl))⟩
    d_law_kinds := fun_sayM c X G "_law_kinds" (topS 37) (memD (j := 25) (by rfl)) (memD (j := 25) (by rfl))
    r_law_kinds := ⟨_, mg_says c X G (memD (j := 25) (by rfl))⟩
    d_law_says := fun_sayM c X G "_law_says" (topS 38) (memD (j := 26) (by rfl)) (memD (j := 26) (by rfl))
    r_law_says := ⟨_, mg_says c X G (memD (j := 26) (by rfl))⟩
    d_law_is_number := fun_sayM c X G "_law_is_number" (topS 39) (memD (j := 27) (by rfl)) (memD (j := 27) (by rfl))
    r_law_is_number := ⟨_, mg_says c X G (memD (j := 27) (by rfl))⟩
    d_law_odd := fun_sayM c X G "_law_odd" (topS 40) (memD (j := 28) (by rfl)) (memD (j := 28) (by rfl))
    r_law_odd := ⟨_, mg_says c X G (memD (j := 28) (by rfl))⟩
    d_law_number := fun_sayM c X G "_law_number" (topS 41) (memD (j := 29) (by rfl)) (memD (j := 29) (by rfl))
    r_law_number := ⟨_, mg_says c X G (memD (j := 29) (by rfl))⟩
    d_law_trim := fun_sayM c X G "_law_trim" (topS 42) (memD (j := 30) (by rfl)) (memD (j := 30) (by rfl))
    r_law_trim := ⟨_, mg_says c X G (memD (j := 30) (by rfl))⟩
    d_law_plus := fun_sayM c X G "_law_plus" (topS 43) (memD (j := 31) (by rfl)) (memD (j := 31) (by rfl))
    r_law_plus := ⟨_, mg_says c X G (memD (j := 31) (by rfl))⟩
    d_law_product := fun_sayM c X G "_law_product" (topS 44) (memD (j := 32) (by rfl)) (memD (j := 32) (by rfl))
    r_law_product := ⟨_, mg_says c X G (memD (j := 32) (by rfl))⟩
    d_law_at := fun_sayM c X G "_law_at" (topS 45) (memD (j := 33) (by rfl)) (memD (j := 33) (by rfl))
    r_law_at := ⟨_, mg_says c X G (memD (j := 33) (by rfl))⟩
    d_law_poly := fun_sayM c X G "_law_poly" (topS 46) (memD (j := 34) (by rfl)) (memD (j := 34) (by rfl))
    r_law_poly := ⟨_, mg_says c X G (memD (j := 34) (by rfl))⟩
    d_law_is_poly := fun_sayM c X G "_law_is_poly" (topS 47) (memD (j := 35) (by rfl)) (memD (j := 35) (by rfl))
    r_law_is_poly := ⟨_, mg_says c X G (memD (j := 35) (by rfl))⟩
    d_law_right := fun_sayM c X G "_law_right" (topS 48) (memD (j := 36) (by rfl)) (memD (j := 36) (by rfl))
    r_law_right := ⟨_, mg_says c X G (memD (j := 36) (by rfl))⟩
    d_law := fun_sayM c X G "law" (topS 49) (memD (j := 37) (by rfl)) (memD (j := 37) (by rfl))
    r_law := ⟨_, mg_says c X G (memD (j := 37) (by rfl))⟩
    c_MOST_PLACES := He.int_ok X G (c.facts (f := .int "MOST_PLACES" 200) (memD (j := 75) (by rfl)))
    c_MOST_POWER := He.int_ok X G (c.facts (f := .int "MOST_POWER" 12) (memD (j := 76) (by rfl)))
    e_PowerError := exc_sayM c X G "PowerError" (memD (j := 38) (by rfl)) (memD (j := 44) (by rfl))
    r_PowerError := ⟨_, mg_says c X G (memD (j := 38) (by rfl))⟩
    k_PowerError := excI_says X G c (memD (j := 38) (by rfl)) he (memD (j := 0) (by rfl))
    e_BadMany := exc_sayM c X G "BadMany" (memD (j := 39) (by rfl)) (memD (j := 45) (by rfl))
    r_BadMany := ⟨_, mg_says c X G (memD (j := 39) (by rfl))⟩
    k_BadMany := excI_says X G c (memD (j := 39) (by rfl)) he (memD (j := 1) (by rfl))
    e_BadOne := exc_sayM c X G "BadOne" (memD (j := 40) (by rfl)) (memD (j := 46) (by rfl))
    r_BadOne := ⟨_, mg_says c X G (memD (j := 40) (by rfl))⟩
    k_BadOne := excI_says X G c (memD (j := 40) (by rfl)) he (memD (j := 2) (by rfl))
    e_BadOther := exc_sayM c X G "BadOther" (memD (j := 41) (by rfl)) (memD (j := 47) (by rfl))
    r_BadOther := ⟨_, mg_says c X G (memD (j := 41) (by rfl))⟩
    k_BadOther := excI_says X G c (memD (j := 41) (by rfl)) he (memD (j := 3) (by rfl))
    e_BadPoly := exc_sayM c X G "BadPoly" (memD (j := 42) (by rfl)) (memD (j := 48) (by rfl))
    r_BadPoly := ⟨_, mg_says c X G (memD (j := 42) (by rfl))⟩
    k_BadPoly := excI_says X G c (memD (j := 42) (by rfl)) he (memD (j := 4) (by rfl))
    e_BadValue := exc_sayM c X G "BadValue" (memD (j := 43) (by rfl)) (memD (j := 49) (by rfl))
    r_BadValue := ⟨_, mg_says c X G (memD (j := 43) (by rfl))⟩
    k_BadValue := excI_says X G c (memD (j := 43) (by rfl)) he (memD (j := 5) (by rfl))
    cat := cat_says c X G (memD (j := 24) (by rfl)) (memD (j := 24) (by rfl)) (memD (j := 38) (by rfl)) ⟨rfl, rfl, rfl, by decide +kernel, rfl, by decide +kernel, by decide +kernel⟩ rfl ⟨rfl, rfl, rfl, rfl⟩ (fun _ _ => rfl) (fun _ _ _ _ _ _ us hl => match us, hl with | [_], _ => rfl) (fun x hx => by
      simp only [errN, List.mem_cons, List.not_mem_nil, or_false] at hx
      rcases hx with rfl | rfl | rfl | rfl | rfl | rfl
      · exact ⟨(memD (j := 38) (by rfl)), (memD (j := 50) (by rfl))⟩
      · exact ⟨(memD (j := 39) (by rfl)), (memD (j := 51) (by rfl))⟩
      · exact ⟨(memD (j := 40) (by rfl)), (memD (j := 52) (by rfl))⟩
      · exact ⟨(memD (j := 41) (by rfl)), (memD (j := 53) (by rfl))⟩
      · exact ⟨(memD (j := 42) (by rfl)), (memD (j := 54) (by rfl))⟩
      · exact ⟨(memD (j := 43) (by rfl)), (memD (j := 55) (by rfl))⟩) }
theorem law_at (w : World) (mg : Str → Option Value) (fa : Addr) (h : Heap) {K : PySem.W.Frag} (X : K.In h) (G : h.Ns mainGlobals mg) (hm : mg "law" = some (.ref fa)) (cx : He.SaysX hfa hfn [] htf hex_ w h K) :
    LamX.LawAtS PySem.Challenge.rw_toldatpowers_k00_whole_polynomials w K (L2.CX (PySem.Challenge.rw_toldatpowers_k00_whole_polynomials).prog w) 9 63 "script" mg fa h := by
  have T := tx_of cx X G
  have c : He.SaysD hfa hfn K := cx.t.d
  obtain ⟨fd, F⟩ := c.defs (d := dfD "law" (topS 49)) (memD (j := 37) (by rfl))
  have e := hm.symm.trans (mg_says c X G (x := "law") (memD (j := 37) (by rfl)))
  cases e
  have hT : ∀ p ∈ [He.cT K ("law", none)], h.get? p.2 = some { cls := .none, data := .fields #[] } := fun p hp => by
    have e : p = He.cT K ("law", none) := by simpa using hp
    rw [e]
    exact cx.empty ("law", none) (memD (j := 0) (by rfl))
  refine ⟨fd, [He.cT K ("law", none)], spLaw K (lawT (He.cT K ("law", none)).2), hT, fun p hp => ?_, fun p hp => ?_, ?_, ?_, ?_⟩
  · have e : p = He.cT K ("law", none) := by simpa using hp
    rw [e]
    exact cx.out ("law", none) (memD (j := 0) (by rfl))
  · have e : p = He.cT K ("law", none) := by simpa using hp
    rw [e]
    exact PySem.W.codeHd_of_K X (cx.hd ("law", none) (memD (j := 0) (by rfl)))
  · intro s u
    have b := FunD.bindsA (ps := ["script"]) F fun _ _ _ _ _ _ us hl => match us, hl with | [_], _ => rfl
    exact b s [u] rfl
  · intro H a ns hl hb hH hS
    refine ⟨a, ns, rfl, hS, ⟨hl, fun z hz => bits_lt (hb z hz)⟩, fun p hp => ?_, fun _ => rfl⟩
    have e : p = ((He.cT K ("law", none)).2, ("law.<locals>.<lambda>" : Str)) := by simpa using hp
    rw [e]
    exact LamX.TabS.nil (hH _ (by simp))
  · intro base X' G' hTB
    exact fn_law (cL := (He.cT K ("law", none)).1) T (hTB _ (by simp)) F (fun oc od osl fd' lk c' e => (He.codeOf_eq (p := ("law", none)) lk e).symm) (fun a ns hB => hp_law mg (He.cT K ("law", none)).2 a ns hB)

end DL

set_option maxHeartbeats 0
namespace DL
open PySem PySem.Spec PyProof.Rows L2 LamX
theorem hrun (w : World) : HandSHeadRun.RunEq hR (PySem.W.view hR.prog [49]) hhk hob 4000 hloose w := by
  intro os
  kernel_rfl
end DL

set_option maxHeartbeats 0
open PySem PySem.W PySem.Calls PyProof.Rows
theorem PySem.Challenge.cw_toldatpowers_k00_whole_polynomials_holds : PySem.Challenge.rw_toldatpowers_k00_whole_polynomials.Holds := by
  w_on; o_law
  refine HandSHeadRun.head_any (r := PySem.W.OpenLaw.row PySem.Challenge.rw_toldatpowers_k00_whole_polynomials) (q := PySem.W.view (PySem.W.OpenLaw.row PySem.Challenge.rw_toldatpowers_k00_whole_polynomials).prog [49]) (H := DL.hhk) (ob := DL.hob) (M := 4000) (loose := DL.hloose) (d := HandSHeadRun.topDef (PySem.W.OpenLaw.row PySem.Challenge.rw_toldatpowers_k00_whole_polynomials).prog 49) (kwd := []) DL.hob_eq
    (by kernel_rfl) (fun s => by kernel_rfl) DL.hrun (by kernel_rfl) (by kernel_rfl) (by kernel_rfl) (by rfl) (by first | assumption | decide +kernel) (by decide +kernel) ⟨rfl, rfl, rfl, rfl, rfl, by decide +kernel⟩ ?hw ?hc
  case hw => w_witness2
  case hc =>
    refine LamX.walk_ofTsE (l := PySem.Challenge.rw_toldatpowers_k00_whole_polynomials) (n := 63) (k := 9) (x := "script") (CX := fun w => L2.CX (PySem.Challenge.rw_toldatpowers_k00_whole_polynomials).prog w) rfl (by decide) (by kernel_rfl) ⟨rfl, by decide, by decide⟩ ?F (fun w H s e s' z => DL.cx_no z)
    intro w mg fa h Y G hmg0
    obtain ⟨K, KX, c⟩ := Y
    have hmg : mg ("law" : PySem.Str) = some (.ref fa) := by
      have e : (HandSHeadRun.topDef (PySem.W.OpenLaw.row PySem.Challenge.rw_toldatpowers_k00_whole_polynomials).prog 49).name = ("law" : PySem.Str) := by kernel_rfl
      rw [← e]
      exact hmg0
    exact ⟨K, KX, DL.law_at w mg fa h KX G hmg c⟩

