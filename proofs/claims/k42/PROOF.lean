import PyProof.Rows.All
import Wide.All
import OpenK.AllK
import Wide.FinOn
import HandS.ForMost
import HandS.ForExc
import HandS.Deep
import KE.KStar
import HandS.EndBits
import HandS.SortInts
import HandS.RaiseMore
import KE.DataMinMax
import KE.DataFind
import KE.SortData
import PyProof.ReprRoads
import PyProof.ListRange
import KE.KRevSl
import PySem.Challenge.RW_pairsbywish_k42_whole_turns_with_claims
set_option Elab.async false
set_option linter.all false
set_option autoImplicit false
set_option maxRecDepth 100000
set_option maxHeartbeats 0
/-! DL1: data results, kinds of slots, the relation of slots and heaps to data -/
namespace DL
open PySem PySem.Spec L2
open PyProof.Rows hiding St

abbrev D := PyData

/-- what a mirror gives: a value, an own error (its class's name, its number), or nothing known -/
inductive Res (α : Type) where
  | ok (a : α)
  | exc (c : Str) (n : Int)
  | stuck

namespace Res
def bind {α β : Type} : Res α → (α → Res β) → Res β
  | .ok a, f => f a
  | .exc c n, _ => .exc c n
  | .stuck, _ => .stuck
instance : Monad Res where
  pure := Res.ok
  bind := Res.bind
@[simp] theorem bind_ok {α β : Type} (a : α) (f : α → Res β) : ((Res.ok a : Res α) >>= f) = f a := id rfl
@[simp] theorem bind_exc {α β : Type} (c : Str) (n : Int) (f : α → Res β) : ((Res.exc c n : Res α) >>= f) = Res.exc c n := id rfl
@[simp] theorem bind_stuck {α β : Type} (f : α → Res β) : ((Res.stuck : Res α) >>= f) = Res.stuck := id rfl
@[simp] theorem pure_ok {α : Type} (a : α) : (pure a : Res α) = Res.ok a := id rfl
theorem bind_assoc {α β γ : Type} (r : Res α) (f : α → Res β) (g : β → Res γ) : (r >>= f >>= g) = (r >>= fun a => f a >>= g) := by
  cases r <;> rfl
/-- what must hold of a result -/
def post {α : Type} (r : Res α) (P : α → Prop) (X : Str → Int → Prop) : Prop :=
  match r with
  | .ok a => P a
  | .exc c n => X c n
  | .stuck => False
theorem post_mono {α : Type} {r : Res α} {P P' : α → Prop} {X : Str → Int → Prop} (h : r.post P X) (k : ∀ a, r = .ok a → P a → P' a) : r.post P' X := by
  cases r with
  | ok a => exact k a rfl h
  | exc c n => exact h
  | stuck => exact h
theorem post_bind {α β : Type} {r : Res α} {f : α → Res β} {P : β → Prop} {X : Str → Int → Prop} (h : (r >>= f).post P X) : r.post (fun a => (f a).post P X) X := by
  cases r with
  | ok a => exact h
  | exc c n => exact h
  | stuck => exact h
theorem post_weak {α : Type} {r : Res α} {P : α → Prop} {Y : Str → Int → Prop} (h : r.post P (fun _ _ => False)) : r.post P Y := by
  cases r with
  | ok a => exact h
  | exc c n => exact h.elim
  | stuck => exact h
/-- an error within a comprehension is not followed -/
def noX {α : Type} : Res α → Res α
  | .ok a => .ok a
  | .exc _ _ => .stuck
  | .stuck => .stuck
@[simp] theorem noX_ok {α : Type} (a : α) : noX (.ok a : Res α) = .ok a := id rfl
@[simp] theorem noX_stuck {α : Type} : noX (.stuck : Res α) = .stuck := id rfl
@[simp] theorem noX_exc {α : Type} (c : Str) (n : Int) : noX (.exc c n : Res α) = .stuck := id rfl
theorem noX_post {α : Type} {r : Res α} {P : α → Prop} {X Y : Str → Int → Prop} (h : (noX r).post P X) : r.post P Y := by
  cases r with
  | ok a => exact h
  | exc c n => exact h.elim
  | stuck => exact h
end Res

/-- a test, else nothing is known -/
def need (b : Bool) : Res Unit := if b then .ok () else .stuck
@[simp] theorem need_true : need true = .ok () := id rfl
@[simp] theorem need_false : need false = .stuck := id rfl

inductive Kd where
  | sh | bo | vw | ow | owb | vs | kx
  deriving DecidableEq
abbrev Cell := Option (Kd × D)
abbrev Env := List Cell
def sh (d : D) : Cell := some (.sh, d)
def bo (d : D) : Cell := some (.bo, d)
def ow (d : D) : Cell := some (.ow, d)
def owb (d : D) : Cell := some (.owb, d)
def vs (d : D) : Cell := some (.vs, d)

/-- the heap and the frozen part at a def's entry -/
structure Gd where
  H0 : Hp
  F0 : Hp

/-! ### data in a heap -/
section
variable {K : PySem.W.Frag} {S S' : Hp}
theorem SqL.mono (h : Same S S') {a : Addr} {xs : List V} (q : SqL K S a xs) : SqL K S' a xs := h.seq q
theorem SqT.mono (h : Same S S') {a : Addr} {xs : List V} (q : SqT K S a xs) : SqT K S' a xs := by
  rcases q with (q | ⟨o, q⟩) | q
  · exact .inl (.inl (h _ _ q))
  · exact .inl (.inr ⟨o, h _ _ q⟩)
  · exact .inr q
end
/-! data in a heap: the lists are tracked (or known), no objects of the module -/
mutual
inductive Rp (K : PySem.W.Frag) (H : Hp) : V → PyData → Prop
  | non : Rp K H .non .none
  | bl (b : Bool) : Rp K H (.bl b) (.bool b)
  | int (i : Int) : Rp K H (.int i) (.int i)
  | str (x : Str) : Rp K H (.str x) (.str x)
  | lst {a : Addr} {xs : List V} {ds : List PyData} : Rd H a (.lst xs) → RpAll K H xs ds → Rp K H (.ref a) (.list ds)
  | tup {a : Addr} {xs : List V} {ds : List PyData} : SqT K H a xs → RpAll K H xs ds → Rp K H (.ref a) (.tuple ds)
inductive RpAll (K : PySem.W.Frag) (H : Hp) : List V → List PyData → Prop
  | nil : RpAll K H [] []
  | cons {v : V} {vs : List V} {d : PyData} {ds : List PyData} : Rp K H v d → RpAll K H vs ds → RpAll K H (v :: vs) (d :: ds)
end
section
variable {K : PySem.W.Frag} {S S' : Hp}
theorem Rd.mono (h : Same S S') {a : Addr} {o : HO} (q : Rd S a o) : Rd S' a o := by
  rcases q with q | ⟨u, q⟩
  · exact .inl (h _ _ q)
  · exact .inr ⟨u, h _ _ q⟩
mutual
theorem Rp.dp : ∀ (d : D) (v : V), Rp K S v d → Dp K S v d
  | .none, _, q => by cases q; exact .non
  | .bool b, _, q => by cases q; exact .bl b
  | .int i, _, q => by cases q; exact .int i
  | .str x, _, q => by cases q; exact .str x
  | .list ds, _, q => by
    cases q with
    | lst hs ha => exact .lst (.inl hs) (RpAll.dp ds _ ha)
  | .tuple ds, _, q => by
    cases q with
    | tup hs ha => exact .tup hs (RpAll.dp ds _ ha)
  | .dict _, _, q => by cases q
theorem RpAll.dp : ∀ (ds : List D) (vs : List V), RpAll K S vs ds → DpAll K S vs ds
  | [], _, q => by cases q; exact .nil
  | d :: ds, _, q => by
    cases q with
    | cons h1 h2 => exact .cons (Rp.dp d _ h1) (RpAll.dp ds _ h2)
end
mutual
theorem Dp.mono (h : Same S S') : ∀ (d : D) (v : V), Dp K S v d → Dp K S' v d
  | .none, _, q => by cases q; exact .non
  | .bool b, _, q => by cases q; exact .bl b
  | .int i, _, q => by cases q; exact .int i
  | .str x, _, q => by cases q; exact .str x
  | .list ds, _, q => by
    cases q with
    | lst hs ha => exact .lst (SqL.mono h hs) (DpAll.mono h ds _ ha)
  | .tuple ds, _, q => by
    cases q with
    | tup hs ha => exact .tup (SqT.mono h hs) (DpAll.mono h ds _ ha)
  | .dict _, _, q => by cases q
theorem DpAll.mono (h : Same S S') : ∀ (ds : List D) (vs : List V), DpAll K S vs ds → DpAll K S' vs ds
  | [], _, q => by cases q; exact .nil
  | d :: ds, _, q => by
    cases q with
    | cons h1 h2 => exact .cons (Dp.mono h d _ h1) (DpAll.mono h ds _ h2)
end
mutual
theorem Rp.mono (h : Same S S') : ∀ (d : D) (v : V), Rp K S v d → Rp K S' v d
  | .none, _, q => by cases q; exact .non
  | .bool b, _, q => by cases q; exact .bl b
  | .int i, _, q => by cases q; exact .int i
  | .str x, _, q => by cases q; exact .str x
  | .list ds, _, q => by
    cases q with
    | lst hs ha => exact .lst (Rd.mono h hs) (RpAll.mono h ds _ ha)
  | .tuple ds, _, q => by
    cases q with
    | tup hs ha => exact .tup (SqT.mono h hs) (RpAll.mono h ds _ ha)
  | .dict _, _, q => by cases q
theorem RpAll.mono (h : Same S S') : ∀ (ds : List D) (vs : List V), RpAll K S vs ds → RpAll K S' vs ds
  | [], _, q => by cases q; exact .nil
  | d :: ds, _, q => by
    cases q with
    | cons h1 h2 => exact .cons (Rp.mono h d _ h1) (RpAll.mono h ds _ h2)
end
theorem DpAll.length : ∀ {vs : List V} {ds : List D}, DpAll K S vs ds → vs.length = ds.length
  | _, [], .nil => rfl
  | _, _ :: _, .cons _ r => by rw [List.length_cons, List.length_cons, DpAll.length r]
theorem DpAll.append : ∀ {vs : List V} {ds : List D} {ws : List V} {es : List D}, DpAll K S vs ds → DpAll K S ws es → DpAll K S (vs ++ ws) (ds ++ es)
  | _, _, _, _, .nil, q => q
  | _, _, _, _, .cons h t, q => .cons h (DpAll.append t q)
theorem DpAll.get : ∀ {vs : List V} {ds : List D} {i : Nat} {d : D}, DpAll K S vs ds → ds[i]? = some d → ∃ v, vs[i]? = some v ∧ Dp K S v d
  | _, _, _, _, .nil, e => by simp at e
  | _, _, 0, _, .cons h _, e => by
    simp only [List.getElem?_cons_zero, Option.some.injEq] at e
    subst e
    exact ⟨_, rfl, h⟩
  | _, _, i + 1, _, .cons _ t, e => by
    obtain ⟨v, h1, h2⟩ := DpAll.get (i := i) t (by simpa using e)
    exact ⟨v, by simpa using h1, h2⟩
theorem DpAll.set : ∀ {vs : List V} {ds : List D} {v : V} {d : D} (i : Nat), DpAll K S vs ds → Dp K S v d → DpAll K S (vs.set i v) (ds.set i d)
  | _, _, _, _, _, .nil, _ => .nil
  | _, _, _, _, 0, .cons _ t, q => .cons q t
  | _, _, _, _, i + 1, .cons h t, q => .cons h (DpAll.set i t q)
theorem DpAll.take : ∀ {vs : List V} {ds : List D} (n : Nat), DpAll K S vs ds → DpAll K S (vs.take n) (ds.take n)
  | _, _, 0, _ => by simp only [List.take_zero]; exact .nil
  | _, _, _ + 1, .nil => by simp only [List.take_nil]; exact .nil
  | _, _, n + 1, .cons h t => .cons h (DpAll.take n t)
theorem DpAll.drop : ∀ {vs : List V} {ds : List D} (n : Nat), DpAll K S vs ds → DpAll K S (vs.drop n) (ds.drop n)
  | _, _, 0, q => q
  | _, _, _ + 1, .nil => by simp only [List.drop_nil]; exact .nil
  | _, _, n + 1, .cons h t => DpAll.drop n t
theorem DpAll.reverse : ∀ {vs : List V} {ds : List D}, DpAll K S vs ds → DpAll K S vs.reverse ds.reverse
  | _, _, .nil => .nil
  | _, _, .cons h t => by
    rw [List.reverse_cons, List.reverse_cons]
    exact DpAll.append (DpAll.reverse t) (.cons h .nil)
theorem DpAll.rep : ∀ {vs : List V} {ds : List D} (k : Nat), DpAll K S vs ds → DpAll K S (List.replicate k vs).flatten (List.replicate k ds).flatten
  | _, _, 0, _ => .nil
  | _, _, k + 1, q => by
    rw [List.replicate_succ, List.replicate_succ, List.flatten_cons, List.flatten_cons]
    exact DpAll.append q (DpAll.rep k q)
theorem Dp.list {v : V} {ds : List D} (h : Dp K S v (.list ds)) : ∃ a xs, v = .ref a ∧ SqL K S a xs ∧ DpAll K S xs ds := by
  cases h with
  | lst hs ha => exact ⟨_, _, rfl, hs, ha⟩
theorem Dp.tuple {v : V} {ds : List D} (h : Dp K S v (.tuple ds)) : ∃ a xs, v = .ref a ∧ SqT K S a xs ∧ DpAll K S xs ds := by
  cases h with
  | tup hs ha => exact ⟨_, _, rfl, hs, ha⟩
theorem Dp.int_inv {v : V} {i : Int} (h : Dp K S v (.int i)) : v = .int i := by cases h; rfl
theorem Dp.bool_inv {v : V} {b : Bool} (h : Dp K S v (.bool b)) : v = .bl b := by cases h; rfl
theorem Dp.str_inv {v : V} {x : Str} (h : Dp K S v (.str x)) : v = .str x := by cases h; rfl
theorem Dp.none_inv {v : V} (h : Dp K S v .none) : v = .non := by cases h; rfl
theorem RpAll.length : ∀ {vs : List V} {ds : List D}, RpAll K S vs ds → vs.length = ds.length
  | _, [], .nil => rfl
  | _, _ :: _, .cons _ r => by rw [List.length_cons, List.length_cons, RpAll.length r]
theorem RpAll.append : ∀ {vs : List V} {ds : List D} {ws : List V} {es : List D}, RpAll K S vs ds → RpAll K S ws es → RpAll K S (vs ++ ws) (ds ++ es)
  | _, _, _, _, .nil, q => q
  | _, _, _, _, .cons h t, q => .cons h (RpAll.append t q)
theorem RpAll.get : ∀ {vs : List V} {ds : List D} {i : Nat} {d : D}, RpAll K S vs ds → ds[i]? = some d → ∃ v, vs[i]? = some v ∧ Rp K S v d
  | _, _, _, _, .nil, e => by simp at e
  | _, _, 0, _, .cons h _, e => by
    simp only [List.getElem?_cons_zero, Option.some.injEq] at e
    subst e
    exact ⟨_, rfl, h⟩
  | _, _, i + 1, _, .cons _ t, e => by
    obtain ⟨v, h1, h2⟩ := RpAll.get (i := i) t (by simpa using e)
    exact ⟨v, by simpa using h1, h2⟩
theorem RpAll.set : ∀ {vs : List V} {ds : List D} {v : V} {d : D} (i : Nat), RpAll K S vs ds → Rp K S v d → RpAll K S (vs.set i v) (ds.set i d)
  | _, _, _, _, _, .nil, _ => .nil
  | _, _, _, _, 0, .cons _ t, q => .cons q t
  | _, _, _, _, i + 1, .cons h t, q => .cons h (RpAll.set i t q)
theorem RpAll.take : ∀ {vs : List V} {ds : List D} (n : Nat), RpAll K S vs ds → RpAll K S (vs.take n) (ds.take n)
  | _, _, 0, _ => by simp only [List.take_zero]; exact .nil
  | _, _, _ + 1, .nil => by simp only [List.take_nil]; exact .nil
  | _, _, n + 1, .cons h t => .cons h (RpAll.take n t)
theorem RpAll.drop : ∀ {vs : List V} {ds : List D} (n : Nat), RpAll K S vs ds → RpAll K S (vs.drop n) (ds.drop n)
  | _, _, 0, q => q
  | _, _, _ + 1, .nil => by simp only [List.drop_nil]; exact .nil
  | _, _, n + 1, .cons h t => RpAll.drop n t
theorem RpAll.reverse : ∀ {vs : List V} {ds : List D}, RpAll K S vs ds → RpAll K S vs.reverse ds.reverse
  | _, _, .nil => .nil
  | _, _, .cons h t => by
    rw [List.reverse_cons, List.reverse_cons]
    exact RpAll.append (RpAll.reverse t) (.cons h .nil)
theorem RpAll.rep : ∀ {vs : List V} {ds : List D} (k : Nat), RpAll K S vs ds → RpAll K S (List.replicate k vs).flatten (List.replicate k ds).flatten
  | _, _, 0, _ => .nil
  | _, _, k + 1, q => by
    rw [List.replicate_succ, List.replicate_succ, List.flatten_cons, List.flatten_cons]
    exact RpAll.append q (RpAll.rep k q)
theorem Rp.list {v : V} {ds : List D} (h : Rp K S v (.list ds)) : ∃ a xs, v = .ref a ∧ Rd S a (.lst xs) ∧ RpAll K S xs ds := by
  cases h with
  | lst hs ha => exact ⟨_, _, rfl, hs, ha⟩
theorem Rp.tuple {v : V} {ds : List D} (h : Rp K S v (.tuple ds)) : ∃ a xs, v = .ref a ∧ SqT K S a xs ∧ RpAll K S xs ds := by
  cases h with
  | tup hs ha => exact ⟨_, _, rfl, hs, ha⟩
theorem Rp.int_inv {v : V} {i : Int} (h : Rp K S v (.int i)) : v = .int i := by cases h; rfl
theorem Rp.bool_inv {v : V} {b : Bool} (h : Rp K S v (.bool b)) : v = .bl b := by cases h; rfl
theorem Rp.str_inv {v : V} {x : Str} (h : Rp K S v (.str x)) : v = .str x := by cases h; rfl
theorem Rp.none_inv {v : V} (h : Rp K S v .none) : v = .non := by cases h; rfl
end

/-! ### what needs no list -/
mutual
def imm : D → Bool
  | .none => true
  | .bool _ => true
  | .int _ => true
  | .str _ => true
  | .tuple ds => immAll ds
  | .list _ => false
  | .dict _ => false
def immAll : List D → Bool
  | [] => true
  | d :: ds => imm d && immAll ds
end
def isTup : HO → Bool
  | .tup _ => true
  | .frz _ (.tup _) => true
  | _ => false
/-- F and all tuples of H -/
def tupsOf (H F : Hp) : Hp := fun a => match F a with
  | some o => some o
  | none => match H a with
    | some o => if isTup o then some o else none
    | none => none
theorem tupsOf_same (H F : Hp) : Same F (tupsOf H F) := fun a o e => by
  unfold tupsOf
  rw [e]
theorem tupsOf_sub {H F : Hp} (h : Same F H) : Same (tupsOf H F) H := fun a o e => by
  unfold tupsOf at e
  cases q : F a with
  | some o' => rw [q] at e; cases e; exact h _ _ q
  | none =>
    rw [q] at e
    cases r : H a with
    | none => rw [r] at e; cases e
    | some o' =>
      rw [r] at e
      simp only at e
      split at e
      · exact e
      · cases e
theorem tupsOf_tup {H F : Hp} (h : Same F H) {a : Addr} {o : HO} (e : H a = some o) (t : isTup o = true) : tupsOf H F a = some o := by
  unfold tupsOf
  cases q : F a with
  | some o' =>
    have := h _ _ q
    rw [e] at this
    cases this
    rfl
  | none => simp only [e, t, if_true]
theorem tupsOf_inv {H F : Hp} {a : Addr} {o : HO} (e : tupsOf H F a = some o) : F a = some o ∨ isTup o = true := by
  unfold tupsOf at e
  cases q : F a with
  | some o' => rw [q] at e; cases e; exact .inl rfl
  | none =>
    rw [q] at e
    cases r : H a with
    | none => rw [r] at e; cases e
    | some o' =>
      rw [r] at e
      simp only at e
      split at e
      · rename_i t; cases e; exact .inr t
      · cases e
section
variable {K : PySem.W.Frag} {H F : Hp}
theorem SqT.tups (h : Same F H) {a : Addr} {xs : List V} (q : SqT K H a xs) : SqT K (tupsOf H F) a xs := by
  rcases q with (q | ⟨o, q⟩) | q
  · exact .inl (.inl (tupsOf_tup h q rfl))
  · exact .inl (.inr ⟨o, tupsOf_tup h q rfl⟩)
  · exact .inr q
mutual
theorem Dp.capt (h : Same F H) : ∀ (d : D) (v : V), imm d = true → Dp K H v d → Rp K (tupsOf H F) v d
  | .none, _, _, q => by cases q; exact .non
  | .bool b, _, _, q => by cases q; exact .bl b
  | .int i, _, _, q => by cases q; exact .int i
  | .str x, _, _, q => by cases q; exact .str x
  | .list ds, _, i, q => by simp [imm] at i
  | .tuple ds, _, i, q => by
    cases q with
    | tup hs ha => exact .tup (SqT.tups h hs) (DpAll.capt h ds _ (by simpa [imm] using i) ha)
  | .dict _, _, _, q => by cases q
theorem DpAll.capt (h : Same F H) : ∀ (ds : List D) (vs : List V), immAll ds = true → DpAll K H vs ds → RpAll K (tupsOf H F) vs ds
  | [], _, _, q => by cases q; exact .nil
  | d :: ds, _, i, q => by
    have i' : imm d = true ∧ immAll ds = true := by simpa [immAll] using i
    cases q with
    | cons h1 h2 => exact .cons (Dp.capt h d _ i'.1 h1) (DpAll.capt h ds _ i'.2 h2)
end
end

/-! ### slots and results -/
/-- a slot of such a kind holds the data -/
def RepC (K : PySem.W.Frag) (F B H : Hp) : Kd → V → D → Prop
  | .sh, v, d => Rp K F v d
  | .bo, v, d => Rp K B v d
  | .vw, v, d => Rp K B v d
  | .ow, v, d => ∃ a xs ds, v = .ref a ∧ d = .list ds ∧ H a = some (.lst xs) ∧ B a = none ∧ RpAll K F xs ds
  | .owb, v, d => ∃ a xs ds, v = .ref a ∧ d = .list ds ∧ H a = some (.lst xs) ∧ B a = none ∧ RpAll K B xs ds
  | .vs, v, d => ∃ a xs ds, v = .ref a ∧ d = .list ds ∧ Rd B a (.lst xs) ∧ RpAll K F xs ds
  | .kx, v, d => Dp K B v d
def own : Kd → Bool
  | .ow => true
  | .owb => true
  | _ => false
/-- an expression's value of such a kind holds the data; P: the heap ahead of it -/
def RepX (K : PySem.W.Frag) (P F B H : Hp) : Kd → V → D → Prop
  | .sh, v, d => Rp K F v d
  | .bo, v, d => Rp K B v d
  | .vw, v, d => Rp K H v d
  | .ow, v, d => ∃ a xs ds, v = .ref a ∧ d = .list ds ∧ H a = some (.lst xs) ∧ B a = none ∧ P a = none ∧ RpAll K F xs ds
  | .owb, v, d => ∃ a xs ds, v = .ref a ∧ d = .list ds ∧ H a = some (.lst xs) ∧ B a = none ∧ P a = none ∧ RpAll K B xs ds
  | .vs, v, d => ∃ a xs ds, v = .ref a ∧ d = .list ds ∧ Rd H a (.lst xs) ∧ RpAll K F xs ds
  | .kx, v, d => Dp K H v d

structure Rel (K : PySem.W.Frag) (C : Gd) (ρ : Env) (F B : Hp) (σ : St) (H : Hp) : Prop where
  fb : Same F B
  bh : Same B H
  h0 : Same C.H0 B
  fr : ∀ a o, F a = some o → C.F0 a = some o ∨ C.H0 a = none ∨ isTup o = true
  len : σ.length = ρ.length
  cells : ∀ (i : Nat) (k : Kd) (d : D), ρ[i]? = some (some (k, d)) → ∃ v, σ[i]? = some (some v) ∧ RepC K F B H k v d
  dist : ∀ (i j : Nat) (ki kj : Kd) (di dj : D), i ≠ j → own ki = true → own kj = true → ρ[i]? = some (some (ki, di)) → ρ[j]? = some (some (kj, dj)) → σ[i]? ≠ σ[j]?

structure Ext (F B H F' B' H' : Hp) : Prop where
  f : Same F F'
  b : Same B B'
  fb : Same F' B'
  bh : Same B' H'
  h : Same H H'
  nf : ∀ a o, F' a = some o → F a = some o ∨ H a = none ∨ isTup o = true
  nb : ∀ a o, B' a = some o → B a = some o ∨ H a = none ∨ isTup o = true

theorem Ext.refl {F B H : Hp} (fb : Same F B) (bh : Same B H) : Ext F B H F B H := ⟨.refl _, .refl _, fb, bh, .refl _, fun _ _ e => .inl e, fun _ _ e => .inl e⟩
theorem Ext.trans {F B H F1 B1 H1 F2 B2 H2 : Hp} (x : Ext F B H F1 B1 H1) (y : Ext F1 B1 H1 F2 B2 H2) : Ext F B H F2 B2 H2 where
  f := x.f.trans y.f
  b := x.b.trans y.b
  fb := y.fb
  bh := y.bh
  h := x.h.trans y.h
  nf := fun a o e => by
    rcases y.nf a o e with q | q | q
    · exact x.nf a o q
    · exact .inr (.inl (x.h.free q))
    · exact .inr (.inr q)
  nb := fun a o e => by
    rcases y.nb a o e with q | q | q
    · exact x.nb a o q
    · exact .inr (.inl (x.h.free q))
    · exact .inr (.inr q)
theorem Ext.bnone {F B H F' B' H' : Hp} (x : Ext F B H F' B' H') {a : Addr} {xs : List V} (e : H a = some (.lst xs)) (n : B a = none) : B' a = none := by
  cases q : B' a with
  | none => rfl
  | some o =>
    rcases x.nb a o q with r | r | r
    · rw [n] at r; cases r
    · rw [e] at r; cases r
    · have h1 := x.bh a o q
      have h2 := x.h a _ e
      rw [h1] at h2
      cases h2
      cases r
theorem RepC.ext {K : PySem.W.Frag} {F B H F' B' H' : Hp} (x : Ext F B H F' B' H') {k : Kd} {v : V} {d : D} (r : RepC K F B H k v d) : RepC K F' B' H' k v d := by
  cases k with
  | sh => exact Rp.mono x.f d v r
  | bo => exact Rp.mono x.b d v r
  | vw => exact Rp.mono x.b d v r
  | ow =>
    obtain ⟨a, xs, ds, rfl, rfl, h1, h2, h3⟩ := r
    exact ⟨a, xs, ds, rfl, rfl, x.h _ _ h1, x.bnone h1 h2, RpAll.mono x.f ds xs h3⟩
  | owb =>
    obtain ⟨a, xs, ds, rfl, rfl, h1, h2, h3⟩ := r
    exact ⟨a, xs, ds, rfl, rfl, x.h _ _ h1, x.bnone h1 h2, RpAll.mono x.b ds xs h3⟩
  | vs =>
    obtain ⟨a, xs, ds, rfl, rfl, h1, h3⟩ := r
    exact ⟨a, xs, ds, rfl, rfl, Rd.mono x.b h1, RpAll.mono x.f ds xs h3⟩
  | kx => exact Dp.mono x.b d v r
theorem RepX.ext {K : PySem.W.Frag} {P F B H F' B' H' : Hp} (x : Ext F B H F' B' H') {k : Kd} {v : V} {d : D} (r : RepX K P F B H k v d) : RepX K P F' B' H' k v d := by
  cases k with
  | sh => exact Rp.mono x.f d v r
  | bo => exact Rp.mono x.b d v r
  | vw => exact Rp.mono x.h d v r
  | ow =>
    obtain ⟨a, xs, ds, rfl, rfl, h1, h2, h4, h3⟩ := r
    exact ⟨a, xs, ds, rfl, rfl, x.h _ _ h1, x.bnone h1 h2, h4, RpAll.mono x.f ds xs h3⟩
  | owb =>
    obtain ⟨a, xs, ds, rfl, rfl, h1, h2, h4, h3⟩ := r
    exact ⟨a, xs, ds, rfl, rfl, x.h _ _ h1, x.bnone h1 h2, h4, RpAll.mono x.b ds xs h3⟩
  | vs =>
    obtain ⟨a, xs, ds, rfl, rfl, h1, h3⟩ := r
    exact ⟨a, xs, ds, rfl, rfl, Rd.mono x.h h1, RpAll.mono x.f ds xs h3⟩
  | kx => exact Dp.mono x.h d v r
/-- fresh ahead of an earlier heap too -/
theorem RepX.back {K : PySem.W.Frag} {P P' F B H : Hp} (h : Same P P') {k : Kd} {v : V} {d : D} (r : RepX K P' F B H k v d) : RepX K P F B H k v d := by
  cases k with
  | ow =>
    obtain ⟨a, xs, ds, rfl, rfl, h1, h2, h4, h3⟩ := r
    exact ⟨a, xs, ds, rfl, rfl, h1, h2, h.free h4, h3⟩
  | owb =>
    obtain ⟨a, xs, ds, rfl, rfl, h1, h2, h4, h3⟩ := r
    exact ⟨a, xs, ds, rfl, rfl, h1, h2, h.free h4, h3⟩
  | sh => exact r
  | bo => exact r
  | vw => exact r
  | vs => exact r
  | kx => exact r
theorem Rel.ext {K : PySem.W.Frag} {C : Gd} {ρ : Env} {F B H F' B' H' : Hp} {σ : St} (R : Rel K C ρ F B σ H) (x : Ext F B H F' B' H') : Rel K C ρ F' B' σ H' where
  fb := x.fb
  bh := x.bh
  h0 := R.h0.trans x.b
  fr := fun a o e => by
    rcases x.nf a o e with q | q | q
    · exact R.fr a o q
    · exact .inr (.inl ((R.h0.trans R.bh).free q))
    · exact .inr (.inr q)
  len := R.len
  cells := fun i k d e => by
    obtain ⟨v, h1, h2⟩ := R.cells i k d e
    exact ⟨v, h1, h2.ext x⟩
  dist := R.dist
theorem Rel.ext0 {K : PySem.W.Frag} {C : Gd} {ρ : Env} {F B H : Hp} {σ : St} (R : Rel K C ρ F B σ H) : Ext F B H F B H := .refl R.fb R.bh

/-- a view of a value -/
def noKx : Kd → Bool
  | .kx => false
  | _ => true
theorem RepX.viewR {K : PySem.W.Frag} {P F B H : Hp} (fb : Same F B) (bh : Same B H) {k : Kd} {v : V} {d : D} (nk : noKx k = true) (r : RepX K P F B H k v d) : Rp K H v d := by
  cases k with
  | sh => exact Rp.mono (fb.trans bh) d v r
  | bo => exact Rp.mono bh d v r
  | vw => exact r
  | ow =>
    obtain ⟨a, xs, ds, rfl, rfl, h1, h2, h4, h3⟩ := r
    exact .lst (.inl h1) (RpAll.mono (fb.trans bh) ds xs h3)
  | owb =>
    obtain ⟨a, xs, ds, rfl, rfl, h1, h2, h4, h3⟩ := r
    exact .lst (.inl h1) (RpAll.mono bh ds xs h3)
  | vs =>
    obtain ⟨a, xs, ds, rfl, rfl, h1, h3⟩ := r
    exact .lst h1 (RpAll.mono (fb.trans bh) ds xs h3)
  | kx => cases nk
theorem RepX.view {K : PySem.W.Frag} {P F B H : Hp} (fb : Same F B) (bh : Same B H) {k : Kd} {v : V} {d : D} (r : RepX K P F B H k v d) : Dp K H v d := by
  by_cases q : noKx k = true
  · exact Rp.dp d v (r.viewR fb bh q)
  · cases k with
    | kx => exact r
    | _ => exact absurd rfl q
end DL

/-! DL2: expressions -/
namespace DL
open PySem PySem.Spec L2
open PyProof.Rows hiding St

/-- an own error of class c with the number n may leave -/
def EG (mg : Str → Option Value) (C : Gd) (E : XK) (c : Str) (n : Int) : Prop :=
  ∀ (ca : Addr), mg c = some (.ref ca) → ∀ (H' : Hp) (dx : Addr), Same C.H0 H' → C.H0 dx = none → H' dx = some (.xd [("at", .int n)]) → E (.ref ca) (some dx) H'
def PP (K : PySem.W.Frag) (k : Kd) (Q : VK) (F B H : Hp) (d : D) : Prop := ∀ F' B' H' v, Ext F B H F' B' H' → RepX K H F' B' H' k v d → Q v H'
theorem PP.mono {K : PySem.W.Frag} {k : Kd} {Q : VK} {F B H F1 B1 H1 : Hp} {d : D} (x : Ext F B H F1 B1 H1) (p : PP K k Q F B H d) : PP K k Q F1 B1 H1 d :=
  fun F' B' H' v y r => p F' B' H' v (x.trans y) (r.back x.h)
def TPP (Q : Bool → Hp → Prop) (F B H : Hp) (b : Bool) : Prop := ∀ F' B' H', Ext F B H F' B' H' → Q b H'
theorem TPP.mono {Q : Bool → Hp → Prop} {F B H F1 B1 H1 : Hp} {b : Bool} (x : Ext F B H F1 B1 H1) (p : TPP Q F B H b) : TPP Q F1 B1 H1 b :=
  fun F' B' H' y => p F' B' H' (x.trans y)

/-- the reading of an expression over data -/
def tD (K : PySem.W.Frag) (mg : Str → Option Value) (C : Gd) (E : XK) (ρ : Env) (k : Kd) (r : Res D) : TE := fun σ H Q =>
  ∃ F B, Rel K C ρ F B σ H ∧ r.post (PP K k Q F B H) (EG mg C E)
/-- an expression gives the data r, of kind k -/
def DE (X : Cx) (C : Gd) (E : XK) (ρ : Env) (e : Expr) (k : Kd) (r : Res D) : Prop := PE X e (tD X.K X.mg C E ρ k r)
/-- a test over data -/
def tT (K : PySem.W.Frag) (mg : Str → Option Value) (C : Gd) (E : XK) (ρ : Env) (r : Res Bool) : TT := fun σ H Q =>
  ∃ F B, Rel K C ρ F B σ H ∧ r.post (TPP Q F B H) (EG mg C E)
def DT (X : Cx) (C : Gd) (E : XK) (ρ : Env) (e : Expr) (r : Res Bool) : Prop := PT X e (tT X.K X.mg C E ρ r)
def DW (X : Cx) (C : Gd) (E : XK) (ρ : Env) (e : Expr) (r : Res Bool) : Prop := PW X e (tT X.K X.mg C E ρ r)

theorem PE_imp {X : Cx} {e : Expr} {t t' : TE} (h : PE X e t) (k : ∀ σ H Q, t' σ H Q → t σ H Q) : PE X e t' := ⟨fun pins s σ H Q I q => h.run pins s σ H Q I (k σ H Q q)⟩
theorem PT_imp {X : Cx} {e : Expr} {t t' : TT} (h : PT X e t) (k : ∀ σ H Q, t' σ H Q → t σ H Q) : PT X e t' := ⟨fun pins s σ H Q I q => h.run pins s σ H Q I (k σ H Q q)⟩
theorem PW_imp {X : Cx} {e : Expr} {t t' : TT} (h : PW X e t) (k : ∀ σ H Q, t' σ H Q → t σ H Q) : PW X e t' := ⟨fun wh pins s σ H Q I q => h.run wh pins s σ H Q I (k σ H Q q)⟩
theorem PA_imp {X : Cx} {es : List Expr} {t t' : TA} (h : PA X es t) (k : ∀ σ H Q, t' σ H Q → t σ H Q) : PA X es t' := ⟨fun pos pins s σ H Q I q => h.run pos pins s σ H Q I (k σ H Q q)⟩

section
variable {K : PySem.W.Frag} {mg : Str → Option Value} {C : Gd} {E : XK} {ρ : Env} {F B H : Hp} {σ : St}
/-- a part is asked first -/
theorem tD1 {α : Type} {ra : Res D} {ka : Kd} {g : D → Res α} {Z : Hp → Hp → Hp → α → Prop} {Qa : VK} (R : Rel K C ρ F B σ H) (h : (ra >>= g).post (Z F B H) (EG mg C E))
    (mono : ∀ {F B H F1 B1 H1 : Hp} {a : α}, Ext F B H F1 B1 H1 → Z F B H a → Z F1 B1 H1 a)
    (k : ∀ d v F1 B1 H1, Ext F B H F1 B1 H1 → Rel K C ρ F1 B1 σ H1 → RepX K H F1 B1 H1 ka v d → (g d).post (Z F1 B1 H1) (EG mg C E) → Qa v H1) : tD K mg C E ρ ka ra σ H Qa :=
  ⟨F, B, R, Res.post_mono (Res.post_bind h) fun d _ hg => fun F' B' H' v x r => k d v F' B' H' x (R.ext x) r (Res.post_mono hg fun a _ z => mono x z)⟩
theorem tT1 {α : Type} {ra : Res Bool} {g : Bool → Res α} {Z : Hp → Hp → Hp → α → Prop} {Qa : Bool → Hp → Prop} (R : Rel K C ρ F B σ H) (h : (ra >>= g).post (Z F B H) (EG mg C E))
    (mono : ∀ {F B H F1 B1 H1 : Hp} {a : α}, Ext F B H F1 B1 H1 → Z F B H a → Z F1 B1 H1 a)
    (k : ∀ b F1 B1 H1, Ext F B H F1 B1 H1 → Rel K C ρ F1 B1 σ H1 → (g b).post (Z F1 B1 H1) (EG mg C E) → Qa b H1) : tT K mg C E ρ ra σ H Qa :=
  ⟨F, B, R, Res.post_mono (Res.post_bind h) fun b _ hg => fun F' B' H' x => k b F' B' H' x (R.ext x) (Res.post_mono hg fun a _ z => mono x z)⟩
/-- an answer without a new object -/
theorem PP.sh {Q : VK} {d : D} {v : V} (R : Rel K C ρ F B σ H) (p : PP K .sh Q F B H d) (h : Rp K F v d) : Q v H := p F B H v R.ext0 h
theorem fin_sh {Q : VK} {d : D} {v : V} (R : Rel K C ρ F B σ H) (p : (Res.ok d).post (PP K .sh Q F B H) (EG mg C E)) (h : Rp K F v d) : Q v H := PP.sh R p h
theorem fin_k {Q : VK} {k : Kd} {d : D} {v : V} (R : Rel K C ρ F B σ H) (p : (Res.ok d).post (PP K k Q F B H) (EG mg C E)) (h : RepX K H F B H k v d) : Q v H := p F B H v R.ext0 h
end

/-! ### kinds -/
/-- a slot's kind when it is read -/
def nk : Kd → Kd
  | .sh => .sh
  | .bo => .bo
  | .vw => .bo
  | .ow => .vs
  | .owb => .vw
  | .vs => .vs
  | .kx => .kx
theorem RepC.read {K : PySem.W.Frag} {P F B H : Hp} (fb : Same F B) (bh : Same B H) {k : Kd} {v : V} {d : D} (r : RepC K F B H k v d) : RepX K P F B H (nk k) v d := by
  cases k with
  | sh => exact r
  | bo => exact r
  | vw => exact r
  | ow =>
    obtain ⟨a, xs, ds, rfl, rfl, h1, h2, h3⟩ := r
    exact ⟨a, xs, ds, rfl, rfl, .inl h1, h3⟩
  | owb =>
    obtain ⟨a, xs, ds, rfl, rfl, h1, h2, h3⟩ := r
    exact Rp.lst (.inl h1) (RpAll.mono bh ds xs h3)
  | vs =>
    obtain ⟨a, xs, ds, rfl, rfl, h1, h3⟩ := r
    exact ⟨a, xs, ds, rfl, rfl, Rd.mono bh h1, h3⟩
  | kx => exact Dp.mono bh d v r
/-- the tuples are taken into the frozen part -/
theorem Ext.tups {F B H : Hp} (fb : Same F B) (bh : Same B H) : Ext F B H (tupsOf H F) (tupsOf H B) H where
  f := tupsOf_same H F
  b := tupsOf_same H B
  fb := fun a o e => by
    rcases tupsOf_inv e with q | q
    · exact tupsOf_same H B _ _ (fb _ _ q)
    · exact tupsOf_tup bh (tupsOf_sub (fb.trans bh) a o e) q
  bh := tupsOf_sub bh
  h := .refl _
  nf := fun a o e => (tupsOf_inv e).elim .inl fun q => .inr (.inr q)
  nb := fun a o e => (tupsOf_inv e).elim .inl fun q => .inr (.inr q)
/-- a fresh list is frozen -/
theorem Ext.froze {F B P H : Hp} {F0 B0 : Hp} {a : Addr} {xs : List V} (x : Ext F0 B0 P F B H) (e : H a = some (.lst xs)) (n : B a = none) (p : P a = none) : Ext F0 B0 P (upd F a (.lst xs)) (upd B a (.lst xs)) H where
  f := fun b o q => by
    have q' := x.f b o q
    rw [upd_ne (fun z => by subst z; have := x.fb _ _ q'; rw [n] at this; cases this)]
    exact q'
  b := fun b o q => by
    have q' := x.b b o q
    rw [upd_ne (fun z => by subst z; rw [n] at q'; cases q')]
    exact q'
  fb := fun b o q => by
    by_cases z : b = a
    · subst z
      rw [upd_same] at q ⊢
      exact q
    · rw [upd_ne z] at q ⊢
      exact x.fb b o q
  bh := fun b o q => by
    unfold upd at q
    split at q
    · rename_i z; subst z; cases q; exact e
    · exact x.bh b o q
  h := x.h
  nf := fun b o q => by
    unfold upd at q
    split at q
    · rename_i z; subst z; exact .inr (.inl p)
    · exact x.nf b o q
  nb := fun b o q => by
    unfold upd at q
    split at q
    · rename_i z; subst z; exact .inr (.inl p)
    · exact x.nb b o q
/-- .. into the borrowed part alone -/
theorem Ext.frozeB {F B P H : Hp} {F0 B0 : Hp} {a : Addr} {xs : List V} (x : Ext F0 B0 P F B H) (e : H a = some (.lst xs)) (n : B a = none) (p : P a = none) : Ext F0 B0 P F (upd B a (.lst xs)) H where
  f := x.f
  b := fun b o q => by
    have q' := x.b b o q
    rw [upd_ne (fun z => by subst z; rw [n] at q'; cases q')]
    exact q'
  fb := fun b o q => by
    have q' := x.fb b o q
    rw [upd_ne (fun z => by subst z; rw [n] at q'; cases q')]
    exact q'
  bh := fun b o q => by
    unfold upd at q
    split at q
    · rename_i z; subst z; cases q; exact e
    · exact x.bh b o q
  h := x.h
  nf := x.nf
  nb := fun b o q => by
    unfold upd at q
    split at q
    · rename_i z; subst z; exact .inr (.inl p)
    · exact x.nb b o q
theorem Same.upd_none {F : Hp} {a : Addr} {o : HO} (n : F a = none) : Same F (upd F a o) := fun b u q => by
  rw [upd_ne (fun z => by subst z; rw [n] at q; cases q)]
  exact q
/-- capture: to kind sh -/
def capK : Kd → D → Res D
  | .sh, d => .ok d
  | .ow, d => .ok d
  | _, d => if imm d then .ok d else .stuck
/-- capture: to kind bo -/
def capB : Kd → D → Res D
  | .sh, d => .ok d
  | .bo, d => .ok d
  | .ow, d => .ok d
  | .owb, d => .ok d
  | _, d => if imm d then .ok d else .stuck
section
variable {K : PySem.W.Frag} {P F B H F0 B0 : Hp} {k : Kd} {v : V} {d d' : D}
theorem cap_imm (x : Ext F0 B0 P F B H) (r : RepX K P F B H k v d) (i : imm d = true) : Ext F0 B0 P (tupsOf H F) (tupsOf H B) H ∧ Rp K (tupsOf H F) v d :=
  ⟨x.trans (.tups x.fb x.bh), Dp.capt (x.fb.trans x.bh) d v i (r.view x.fb x.bh)⟩
theorem capK_ok (x : Ext F0 B0 P F B H) (r : RepX K P F B H k v d) (e : capK k d = .ok d') : d' = d ∧ ∃ F' B', Ext F0 B0 P F' B' H ∧ Rp K F' v d := by
  have byImm : (if imm d then Res.ok d else Res.stuck) = .ok d' → d' = d ∧ ∃ F' B', Ext F0 B0 P F' B' H ∧ Rp K F' v d := fun e => by
    by_cases i : imm d = true
    · rw [if_pos i] at e
      cases e
      obtain ⟨y, q⟩ := cap_imm x r i
      exact ⟨rfl, _, _, y, q⟩
    · rw [if_neg i] at e
      cases e
  cases k with
  | sh => cases e; exact ⟨rfl, F, B, x, r⟩
  | ow =>
    cases e
    obtain ⟨a, xs, ds, rfl, rfl, h1, h2, h4, h3⟩ := r
    have nF : F a = none := x.fb.free h2
    exact ⟨rfl, _, _, x.froze h1 h2 h4, .lst (.inl upd_same) (RpAll.mono (Same.upd_none nF) ds xs h3)⟩
  | bo => exact byImm e
  | vw => exact byImm e
  | owb => exact byImm e
  | vs => exact byImm e
  | kx => exact byImm e
theorem capB_ok (x : Ext F0 B0 P F B H) (r : RepX K P F B H k v d) (e : capB k d = .ok d') : d' = d ∧ ∃ F' B', Ext F0 B0 P F' B' H ∧ Rp K B' v d := by
  have byImm : (if imm d then Res.ok d else Res.stuck) = .ok d' → d' = d ∧ ∃ F' B', Ext F0 B0 P F' B' H ∧ Rp K B' v d := fun e => by
    by_cases i : imm d = true
    · rw [if_pos i] at e
      cases e
      obtain ⟨y, q⟩ := cap_imm x r i
      exact ⟨rfl, _, _, y, Rp.mono y.fb d v q⟩
    · rw [if_neg i] at e
      cases e
  cases k with
  | sh => cases e; exact ⟨rfl, F, B, x, Rp.mono x.fb d v r⟩
  | bo => cases e; exact ⟨rfl, F, B, x, r⟩
  | ow =>
    cases e
    obtain ⟨a, xs, ds, rfl, rfl, h1, h2, h4, h3⟩ := r
    have y := x.froze h1 h2 h4
    exact ⟨rfl, _, _, y, .lst (.inl upd_same) (RpAll.mono (x.fb.trans (Same.upd_none h2)) ds xs h3)⟩
  | owb =>
    cases e
    obtain ⟨a, xs, ds, rfl, rfl, h1, h2, h4, h3⟩ := r
    exact ⟨rfl, _, _, x.frozeB h1 h2 h4, .lst (.inl upd_same) (RpAll.mono (Same.upd_none h2) ds xs h3)⟩
  | vw => exact byImm e
  | vs => exact byImm e
  | kx => exact byImm e
end
section
variable {X : Cx} {C : Gd} {E : XK} {ρ : Env} {e : Expr} {k : Kd} {r : Res D}
theorem de_sh (h : DE X C E ρ e k r) : DE X C E ρ e .sh (r >>= capK k) := by
  refine PE_imp h fun σ H Q ⟨F, B, R, p⟩ => ⟨F, B, R, Res.post_mono (Res.post_bind p) fun d _ pd => fun F1 B1 H1 v x rx => ?_⟩
  cases q : capK k d with
  | ok d' =>
    rw [q] at pd
    obtain ⟨rfl, F2, B2, y, hd⟩ := capK_ok x rx q
    exact pd F2 B2 H1 v y hd
  | exc c n => cases k <;> simp [capK] at q <;> (split at q <;> cases q)
  | stuck => rw [q] at pd; exact pd.elim
theorem de_bo (h : DE X C E ρ e k r) : DE X C E ρ e .bo (r >>= capB k) := by
  refine PE_imp h fun σ H Q ⟨F, B, R, p⟩ => ⟨F, B, R, Res.post_mono (Res.post_bind p) fun d _ pd => fun F1 B1 H1 v x rx => ?_⟩
  cases q : capB k d with
  | ok d' =>
    rw [q] at pd
    obtain ⟨rfl, F2, B2, y, hd⟩ := capB_ok x rx q
    exact pd F2 B2 H1 v y hd
  | exc c n => cases k <;> simp [capB] at q <;> (split at q <;> cases q)
  | stuck => rw [q] at pd; exact pd.elim
end
end DL

/-! DL3: operators -/
namespace DL
open PySem PySem.Spec L2
open PyProof.Rows hiding St

/-! ### what the operators do to data -/
def addI : D → D → Res D
  | .int a, .int b => .ok (.int (a + b))
  | _, _ => .stuck
def addS : D → D → Res D
  | .str a, .str b => if a.length + b.length ≤ sizeLine then .ok (.str (a ++ b)) else .stuck
  | _, _ => .stuck
def subI : D → D → Res D
  | .int a, .int b => .ok (.int (a - b))
  | _, _ => .stuck
def mulI : D → D → Res D
  | .int a, .int b => if (-(2 ^ 64) < a ∧ a < 2 ^ 64) ∨ (-(2 ^ 64) < b ∧ b < 2 ^ 64) then .ok (.int (a * b)) else .stuck
  | _, _ => .stuck
def modI : D → D → Res D
  | .int a, .int b => if b ≠ 0 then .ok (.int (a.fmod b)) else .stuck
  | _, _ => .stuck
def fdivI : D → D → Res D
  | .int a, .int b => if b ≠ 0 ∧ b.natAbs < 1073741824 then .ok (.int (a.fdiv b)) else .stuck
  | _, _ => .stuck
def powI : D → D → Res D
  | .int a, .int b => if 0 ≤ b ∧ b ≤ 1000000 ∧ a.natAbs < 2 ^ 64 then .ok (.int (a ^ b.toNat)) else .stuck
  | _, _ => .stuck
def negI : D → Res D
  | .int a => .ok (.int (-a))
  | _ => .stuck
def ltI : D → D → Res Bool
  | .int a, .int b => .ok (decide (a < b))
  | _, _ => .stuck
def leI : D → D → Res Bool
  | .int a, .int b => .ok (decide (a ≤ b))
  | _, _ => .stuck
def gtI : D → D → Res Bool
  | .int a, .int b => .ok (decide (b < a))
  | _, _ => .stuck
def geI : D → D → Res Bool
  | .int a, .int b => .ok (decide (b ≤ a))
  | _, _ => .stuck
def isS : D → Bool
  | .str _ => true
  | _ => false
def eqD (a b : D) : Res Bool := if (isS a && isS b) || (SeqAt.shaped a && SeqAt.shaped b) then .ok (PyData.eqv a b) else .stuck
def neD (a b : D) : Res Bool := if (isS a && isS b) || (SeqAt.shaped a && SeqAt.shaped b) then .ok (!PyData.eqv a b) else .stuck
def isN : D → Bool
  | .none => true
  | _ => false
def toB : D → Res Bool
  | .bool b => .ok b
  | _ => .stuck
def bD (b : Bool) : Res D := .ok (.bool b)
def lenD : D → Res D
  | .list xs => .ok (.int xs.length)
  | .tuple xs => .ok (.int xs.length)
  | .str x => if x.length ≤ sizeLine then .ok (.int x.length) else .stuck
  | _ => .stuck
/-- an index of any sign -/
def ixD : D → D → Res D
  | .list xs, .int i => match atI xs i with
    | some d => .ok d
    | none => .stuck
  | .tuple xs, .int i => match atI xs i with
    | some d => .ok d
    | none => .stuck
  | _, _ => .stuck
/-- an item's kind -/
def ik : Kd → Kd
  | .sh => .sh
  | .bo => .bo
  | .vw => .vw
  | .ow => .sh
  | .owb => .bo
  | .vs => .sh
  | .kx => .kx
/-- a list's items may be taken over -/
def itemsC : Kd → List D → Bool
  | .sh, _ => true
  | .ow, _ => true
  | .vs, _ => true
  | _, ds => immAll ds
/-- .. into the borrowed part -/
def itemsB : Kd → List D → Bool
  | .sh, _ => true
  | .ow, _ => true
  | .vs, _ => true
  | .bo, _ => true
  | .owb, _ => true
  | _, ds => immAll ds

section
variable {K : PySem.W.Frag} {P F B H : Hp} {k : Kd} {v : V}
theorem RepX.anyP {P' : Hp} {d : D} (o : own k = false) (r : RepX K P F B H k v d) : RepX K P' F B H k v d := by
  cases k with
  | ow => cases o
  | owb => cases o
  | _ => exact r
theorem own_ik (k : Kd) : own (ik k) = false := by cases k <;> rfl
theorem own_nk (k : Kd) : own (nk k) = false := by cases k <;> rfl
/-- an item of a list -/
theorem RepX.item (fb : Same F B) (bh : Same B H) {ds : List D} (r : RepX K P F B H k v (.list ds)) : ∃ a xs, v = .ref a ∧ SqL K H a xs ∧ xs.length = ds.length ∧ ∀ (j : Nat) (d : D), ds[j]? = some d → ∃ u, xs[j]? = some u ∧ RepX K P F B H (ik k) u d := by
  cases k with
  | sh =>
    obtain ⟨a, xs, rfl, h1, h2⟩ := Rp.list r
    exact ⟨a, xs, rfl, .inl (Rd.mono (fb.trans bh) h1), DL.RpAll.length h2, fun j d e => RpAll.get h2 e⟩
  | bo =>
    obtain ⟨a, xs, rfl, h1, h2⟩ := Rp.list r
    exact ⟨a, xs, rfl, .inl (Rd.mono bh h1), DL.RpAll.length h2, fun j d e => RpAll.get h2 e⟩
  | vw =>
    obtain ⟨a, xs, rfl, h1, h2⟩ := Rp.list r
    exact ⟨a, xs, rfl, .inl h1, DL.RpAll.length h2, fun j d e => RpAll.get h2 e⟩
  | ow =>
    obtain ⟨a, xs, ds', rfl, e, h1, h2, h4, h3⟩ := r
    cases e
    exact ⟨a, xs, rfl, SqL.of h1, DL.RpAll.length h3, fun j d e => RpAll.get h3 e⟩
  | owb =>
    obtain ⟨a, xs, ds', rfl, e, h1, h2, h4, h3⟩ := r
    cases e
    exact ⟨a, xs, rfl, SqL.of h1, DL.RpAll.length h3, fun j d e => RpAll.get h3 e⟩
  | vs =>
    obtain ⟨a, xs, ds', rfl, e, h1, h3⟩ := r
    cases e
    exact ⟨a, xs, rfl, .inl h1, DL.RpAll.length h3, fun j d e => RpAll.get h3 e⟩
  | kx =>
    obtain ⟨a, xs, rfl, h1, h2⟩ := Dp.list r
    exact ⟨a, xs, rfl, h1, DL.DpAll.length h2, fun j d e => DpAll.get h2 e⟩
theorem RepX.itemT (fb : Same F B) (bh : Same B H) {ds : List D} (r : RepX K P F B H k v (.tuple ds)) : ∃ a xs, v = .ref a ∧ SqT K H a xs ∧ xs.length = ds.length ∧ ∀ (j : Nat) (d : D), ds[j]? = some d → ∃ u, xs[j]? = some u ∧ RepX K P F B H (ik k) u d := by
  cases k with
  | sh =>
    obtain ⟨a, xs, rfl, h1, h2⟩ := Rp.tuple r
    exact ⟨a, xs, rfl, SqT.mono (fb.trans bh) h1, DL.RpAll.length h2, fun j d e => RpAll.get h2 e⟩
  | bo =>
    obtain ⟨a, xs, rfl, h1, h2⟩ := Rp.tuple r
    exact ⟨a, xs, rfl, SqT.mono bh h1, DL.RpAll.length h2, fun j d e => RpAll.get h2 e⟩
  | vw =>
    obtain ⟨a, xs, rfl, h1, h2⟩ := Rp.tuple r
    exact ⟨a, xs, rfl, h1, DL.RpAll.length h2, fun j d e => RpAll.get h2 e⟩
  | ow =>
    obtain ⟨a, xs, ds', rfl, e, h1, h2, h4, h3⟩ := r
    cases e
  | owb =>
    obtain ⟨a, xs, ds', rfl, e, h1, h2, h4, h3⟩ := r
    cases e
  | vs =>
    obtain ⟨a, xs, ds', rfl, e, h1, h3⟩ := r
    cases e
  | kx =>
    obtain ⟨a, xs, rfl, h1, h2⟩ := Dp.tuple r
    exact ⟨a, xs, rfl, h1, DL.DpAll.length h2, fun j d e => DpAll.get h2 e⟩
theorem RepX.viewL (fb : Same F B) (bh : Same B H) {ds : List D} (r : RepX K P F B H k v (.list ds)) : ∃ a xs, v = .ref a ∧ SqL K H a xs ∧ DpAll K H xs ds := Dp.list (r.view fb bh)
theorem RepX.viewT (fb : Same F B) (bh : Same B H) {ds : List D} (r : RepX K P F B H k v (.tuple ds)) : ∃ a xs, v = .ref a ∧ SqT K H a xs ∧ DpAll K H xs ds := Dp.tuple (r.view fb bh)
/-- the items taken over: into the frozen part and all tuples -/
theorem RepX.items (fb : Same F B) (bh : Same B H) {ds : List D} (nx : noKx k = true) (r : RepX K P F B H k v (.list ds)) (c : itemsC k ds = true) : ∃ a xs, v = .ref a ∧ Rd H a (.lst xs) ∧ RpAll K (tupsOf H F) xs ds := by
  have byImm : immAll ds = true → ∃ a xs, v = .ref a ∧ Rd H a (.lst xs) ∧ RpAll K (tupsOf H F) xs ds := fun i => by
    obtain ⟨a, xs, e, h1, h2⟩ := Rp.list (r.viewR fb bh nx)
    exact ⟨a, xs, e, h1, DpAll.capt (fb.trans bh) ds xs i (RpAll.dp ds xs h2)⟩
  cases k with
  | sh =>
    obtain ⟨a, xs, rfl, h1, h2⟩ := Rp.list r
    exact ⟨a, xs, rfl, Rd.mono (fb.trans bh) h1, RpAll.mono (tupsOf_same H F) ds xs h2⟩
  | ow =>
    obtain ⟨a, xs, ds', rfl, e, h1, h2, h4, h3⟩ := r
    cases e
    exact ⟨a, xs, rfl, .inl h1, RpAll.mono (tupsOf_same H F) ds xs h3⟩
  | vs =>
    obtain ⟨a, xs, ds', rfl, e, h1, h3⟩ := r
    cases e
    exact ⟨a, xs, rfl, h1, RpAll.mono (tupsOf_same H F) ds xs h3⟩
  | bo => exact byImm c
  | vw => exact byImm c
  | owb => exact byImm c
  | kx => cases nx
theorem RepX.itemsB (fb : Same F B) (bh : Same B H) {ds : List D} (nx : noKx k = true) (r : RepX K P F B H k v (.list ds)) (c : DL.itemsB k ds = true) : ∃ a xs, v = .ref a ∧ Rd H a (.lst xs) ∧ RpAll K (tupsOf H B) xs ds := by
  have byImm : immAll ds = true → ∃ a xs, v = .ref a ∧ Rd H a (.lst xs) ∧ RpAll K (tupsOf H B) xs ds := fun i => by
    obtain ⟨a, xs, e, h1, h2⟩ := Rp.list (r.viewR fb bh nx)
    exact ⟨a, xs, e, h1, DpAll.capt bh ds xs i (RpAll.dp ds xs h2)⟩
  have up : itemsC k ds = true → ∃ a xs, v = .ref a ∧ Rd H a (.lst xs) ∧ RpAll K (tupsOf H B) xs ds := fun c => by
    obtain ⟨a, xs, e, h1, h2⟩ := r.items fb bh nx c
    exact ⟨a, xs, e, h1, RpAll.mono (Ext.tups fb bh).fb ds xs h2⟩
  cases k with
  | sh => exact up rfl
  | ow => exact up rfl
  | vs => exact up rfl
  | bo =>
    obtain ⟨a, xs, rfl, h1, h2⟩ := Rp.list r
    exact ⟨a, xs, rfl, Rd.mono bh h1, RpAll.mono (tupsOf_same H B) ds xs h2⟩
  | owb =>
    obtain ⟨a, xs, ds', rfl, e, h1, h2, h4, h3⟩ := r
    cases e
    exact ⟨a, xs, rfl, .inl h1, RpAll.mono (tupsOf_same H B) ds xs h3⟩
  | vw => exact byImm c
  | kx => cases nx
theorem RepX.int {i : Int} (fb : Same F B) (bh : Same B H) (r : RepX K P F B H k v (.int i)) : v = .int i := Dp.int_inv (r.view fb bh)
theorem RepX.bool {b : Bool} (fb : Same F B) (bh : Same B H) (r : RepX K P F B H k v (.bool b)) : v = .bl b := Dp.bool_inv (r.view fb bh)
theorem RepX.str {x : Str} (fb : Same F B) (bh : Same B H) (r : RepX K P F B H k v (.str x)) : v = .str x := Dp.str_inv (r.view fb bh)
theorem isN_dp {d : D} (q : Dp K H v d) : decide (v = .non) = isN d := by
  cases q <;> rfl
theorem isN_iff (fb : Same F B) (bh : Same B H) {d : D} (r : RepX K P F B H k v d) : decide (v = .non) = isN d := by
  have q := r.view fb bh
  cases q <;> rfl
end

section
variable {X : Cx} {C : Gd} {E : XK} {ρ : Env} {a b c : Expr} {ka kb kc : Kd} {ra rb rc : Res D} {pos : Pos}

/-! ### names and constants -/
theorem de_name {i : Nat} {x : Str} {k : Kd} {d : D} (hi : ρ[i]? = some (some (k, d)) := by rfl) (hN : X.N[i]? = some x := by rfl) (hv : Vis X.env.scope x := by first | exact Or.inl rfl | exact Or.inr (Or.inl rfl) | exact Or.inr (Or.inr rfl))
    (hd : (x == ("__debug__" : Str)) = false := by decide) (hcd : (x == ("__classdict__" : Str)) = false := by decide) : DE X C E ρ (.Name x pos) (nk k) (.ok d) :=
  PE_imp (pe_var hN hv hd hcd) fun σ H Q ⟨F, B, R, p⟩ => by
    obtain ⟨v, h1, h2⟩ := R.cells i k d hi
    exact ⟨v, h1, fin_k R p (h2.read R.fb R.bh)⟩
theorem de_int {i : Int} {j : Nat} : DE X C E ρ (.Constant (.int i) j pos) .sh (.ok (.int i)) := PE_imp pe_int fun σ H Q ⟨F, B, R, p⟩ => fin_sh R p (.int i)
theorem de_bl {i : Bool} {j : Nat} : DE X C E ρ (.Constant (.bool i) j pos) .sh (.ok (.bool i)) := PE_imp pe_bl fun σ H Q ⟨F, B, R, p⟩ => fin_sh R p (.bl i)
theorem de_non {j : Nat} : DE X C E ρ (.Constant .none j pos) .sh (.ok .none) := PE_imp pe_non fun σ H Q ⟨F, B, R, p⟩ => fin_sh R p .non
theorem de_str {x : Str} {j : Nat} : DE X C E ρ (.Constant (.str x) j pos) .sh (.ok (.str x)) := PE_imp pe_str fun σ H Q ⟨F, B, R, p⟩ => fin_sh R p (.str x)
/-- a whole number that the module holds -/
theorem de_globI {x : Str} {i : Int} {t : Tok} (hm : X.mg x = some (.int i t)) (hg : Gl X x := by rfl) (hd : (x == ("__debug__" : Str)) = false := by decide) : DE X C E ρ (.Name x pos) .sh (.ok (.int i)) :=
  PE_imp (pe_glob hg hm (v := .int i) ⟨t, rfl⟩ hd) fun σ H Q ⟨F, B, R, p⟩ => fin_sh R p (.int i)

/-! ### two ints -/
/-- the rule of an operation on two values whose answer is a flat value -/
theorem de_op2 {op : Operator} {r2 : R2} {f : D → D → Res D} (ho : OpR X (binaryOp op) r2) (ha : DE X C E ρ a ka ra) (hb : DE X C E ρ b kb rb)
    (k : ∀ x y d, f x y = .ok d → ∃ i j z, x = .int i ∧ y = .int j ∧ d = .int z ∧ ∀ (H : Hp) (Q : VK), Q (.int z) H → r2 (.int i) (.int j) H Q)
    (nx : ∀ x y c n, f x y ≠ .exc c n) :
    DE X C E ρ (.BinOp a op b pos) .sh (ra >>= fun x => rb >>= fun y => f x y) :=
  PE_imp (pe_op ho ha hb) fun σ H Q ⟨F, B, R, p⟩ => tD1 (Z := PP X.K .sh Q) R p PP.mono fun x v F1 B1 H1 x1 R1 rx p1 =>
    tD1 (Z := PP X.K .sh Q) R1 p1 PP.mono fun y u F2 B2 H2 x2 R2 ry p2 => by
      cases q : f x y with
      | ok d =>
        rw [q] at p2
        obtain ⟨i, j, z, rfl, rfl, rfl, h⟩ := k x y d q
        obtain rfl := (rx.ext x2).int R2.fb R2.bh
        obtain rfl := ry.int R2.fb R2.bh
        exact h H2 Q (fin_sh R2 p2 (.int z))
      | exc c n => exact absurd q (nx x y c n)
      | stuck => rw [q] at p2; exact p2.elim
theorem de_add (ha : DE X C E ρ a ka ra) (hb : DE X C E ρ b kb rb) : DE X C E ρ (.BinOp a .Add b pos) .sh (ra >>= fun x => rb >>= fun y => addI x y) := by
  refine de_op2 op_add ha hb (fun x y d e => ?_) fun x y c n e => ?_
  · unfold addI at e
    split at e
    · cases e; exact ⟨_, _, _, rfl, rfl, rfl, fun H Q q => ⟨_, _, rfl, rfl, q⟩⟩
    · cases e
  · unfold addI at e; split at e <;> cases e
theorem de_sub (ha : DE X C E ρ a ka ra) (hb : DE X C E ρ b kb rb) : DE X C E ρ (.BinOp a .Sub b pos) .sh (ra >>= fun x => rb >>= fun y => subI x y) := by
  refine de_op2 op_sub ha hb (fun x y d e => ?_) fun x y c n e => ?_
  · unfold subI at e
    split at e
    · cases e; exact ⟨_, _, _, rfl, rfl, rfl, fun H Q q => ⟨_, _, rfl, rfl, q⟩⟩
    · cases e
  · unfold subI at e; split at e <;> cases e
theorem de_mul (ha : DE X C E ρ a ka ra) (hb : DE X C E ρ b kb rb) : DE X C E ρ (.BinOp a .Mult b pos) .sh (ra >>= fun x => rb >>= fun y => mulI x y) := by
  refine de_op2 op_mul ha hb (fun x y d e => ?_) fun x y c n e => ?_
  · unfold mulI at e
    split at e
    · split at e
      · rename_i h; cases e; exact ⟨_, _, _, rfl, rfl, rfl, fun H Q q => ⟨_, _, rfl, rfl, h, q⟩⟩
      · cases e
    · cases e
  · unfold mulI at e; split at e <;> (try split at e) <;> cases e
theorem de_mod (ha : DE X C E ρ a ka ra) (hb : DE X C E ρ b kb rb) : DE X C E ρ (.BinOp a .Mod b pos) .sh (ra >>= fun x => rb >>= fun y => modI x y) := by
  refine de_op2 op_modN ha hb (fun x y d e => ?_) fun x y c n e => ?_
  · unfold modI at e
    split at e
    · split at e
      · rename_i h; cases e; exact ⟨_, _, _, rfl, rfl, rfl, fun H Q q => ⟨_, _, rfl, rfl, h, q⟩⟩
      · cases e
    · cases e
  · unfold modI at e; split at e <;> (try split at e) <;> cases e
theorem de_fdiv (ha : DE X C E ρ a ka ra) (hb : DE X C E ρ b kb rb) : DE X C E ρ (.BinOp a .FloorDiv b pos) .sh (ra >>= fun x => rb >>= fun y => fdivI x y) := by
  refine de_op2 op_fdivN ha hb (fun x y d e => ?_) fun x y c n e => ?_
  · unfold fdivI at e
    split at e
    · split at e
      · rename_i h; cases e; exact ⟨_, _, _, rfl, rfl, rfl, fun H Q q => ⟨_, _, rfl, rfl, h, q⟩⟩
      · cases e
    · cases e
  · unfold fdivI at e; split at e <;> (try split at e) <;> cases e
theorem de_pow (ha : DE X C E ρ a ka ra) (hb : DE X C E ρ b kb rb) : DE X C E ρ (.BinOp a .Pow b pos) .sh (ra >>= fun x => rb >>= fun y => powI x y) := by
  refine de_op2 op_pow ha hb (fun x y d e => ?_) fun x y c n e => ?_
  · unfold powI at e
    split at e
    · split at e
      · rename_i h; cases e; exact ⟨_, _, _, rfl, rfl, rfl, fun H Q q => ⟨_, _, rfl, rfl, h, q⟩⟩
      · cases e
    · cases e
  · unfold powI at e; split at e <;> (try split at e) <;> cases e
theorem de_neg (ha : DE X C E ρ a ka ra) : DE X C E ρ (.UnaryOp .USub a pos) .sh (ra >>= fun x => negI x) :=
  PE_imp (pe_un un_neg ha) fun σ H Q ⟨F, B, R, p⟩ => tD1 (Z := PP X.K .sh Q) R p PP.mono fun x v F1 B1 H1 x1 R1 rx p1 => by
    cases x with
    | int i =>
      obtain rfl := rx.int R1.fb R1.bh
      exact ⟨i, rfl, fin_sh R1 p1 (.int _)⟩
    | _ => exact p1.elim

/-! ### lists: + and * -/
theorem Inv.rd {X : Cx} {pins : List (Addr × Obj)} {σ : L2.St} {H : Hp} {s : Shared} {l : Addr} {xs : List V} (I : Inv X pins σ H s) (hH : Rd H l (.lst xs)) : xs.length ≤ sizeLine ∧ ∃ (its : List Value) (n : Nat), Vals xs its ∧ xs.length = its.length ∧ s.heap.get? l = some { cls := .type "list", data := .seq its.toArray n } := by
  obtain ⟨z, its, n, r, e⟩ := hH.ok I.hok
  exact ⟨z, its, n, r, r.length, e⟩
/-- l + l', lists that may be read -/
def rCatQ : R2 := fun x y H Q => ∃ l b xs zs, x = .ref l ∧ y = .ref b ∧ Rd H l (.lst xs) ∧ Rd H b (.lst zs) ∧ xs.length + zs.length ≤ sizeLine ∧ ∀ p, H p = none → Q (.ref p) (upd H p (.lst (xs ++ zs)))
theorem op_catQ : OpR X (binaryOp .Add) rCatQ := by
  intro pins s σ H x y v u Q I rx ry h
  obtain ⟨l, b, xs, zs, rfl, rfl, hH, hB, hz, q⟩ := h
  cases rx
  cases ry
  obtain ⟨z, its, n, r, hl, e⟩ := DL.Inv.rd I hH
  obtain ⟨z2, its2, n2, r2, hl2, e2⟩ := DL.Inv.rd I hB
  refine PySem.P.add_list e e2 ?_ (by rw [List.size_toArray, List.size_toArray]; omega)
  have ea : its.toArray ++ its2.toArray = (its ++ its2).toArray := by simp
  rw [ea]
  exact ⟨.ref _, _, I.lnew (t' := s.toks) (r.append r2) (by rw [List.length_append]; omega), rfl, q _ I.fresh⟩
/-- the result of a new list -/
theorem new_list {F B H : Hp} {σ : L2.St} {p : Addr} {xs : List V} {ds : List D} {Q : VK} (R : Rel X.K C ρ F B σ H) (pp : PP X.K .ow Q F B H (.list ds)) (hx : RpAll X.K (tupsOf H F) xs ds) (hp : H p = none) : Q (.ref p) (upd H p (.lst xs)) := by
  have x := Ext.tups R.fb R.bh
  have bn : tupsOf H B p = none := by
    cases q : tupsOf H B p with
    | none => rfl
    | some o => have := tupsOf_sub R.bh _ _ q; rw [hp] at this; cases this
  have y : Ext F B H (tupsOf H F) (tupsOf H B) (upd H p (.lst xs)) := ⟨x.f, x.b, x.fb, x.bh.trans (Same.upd_none hp), Same.upd_none hp, x.nf, x.nb⟩
  exact pp _ _ _ _ y ⟨p, xs, ds, rfl, rfl, upd_same, bn, hp, hx⟩
theorem new_listB {F B H : Hp} {σ : L2.St} {p : Addr} {xs : List V} {ds : List D} {Q : VK} (R : Rel X.K C ρ F B σ H) (pp : PP X.K .owb Q F B H (.list ds)) (hx : RpAll X.K (tupsOf H B) xs ds) (hp : H p = none) : Q (.ref p) (upd H p (.lst xs)) := by
  have x := Ext.tups R.fb R.bh
  have bn : tupsOf H B p = none := by
    cases q : tupsOf H B p with
    | none => rfl
    | some o => have := tupsOf_sub R.bh _ _ q; rw [hp] at this; cases this
  have y : Ext F B H (tupsOf H F) (tupsOf H B) (upd H p (.lst xs)) := ⟨x.f, x.b, x.fb, x.bh.trans (Same.upd_none hp), Same.upd_none hp, x.nf, x.nb⟩
  exact pp _ _ _ _ y ⟨p, xs, ds, rfl, rfl, upd_same, bn, hp, hx⟩
/-- a view of a new list -/
theorem new_view {F B H : Hp} {σ : L2.St} {p : Addr} {xs : List V} {ds : List D} {Q : VK} (R : Rel X.K C ρ F B σ H) (pp : PP X.K .vw Q F B H (.list ds)) (hx : RpAll X.K H xs ds) (hp : H p = none) : Q (.ref p) (upd H p (.lst xs)) := by
  have y : Ext F B H F B (upd H p (.lst xs)) := ⟨.refl _, .refl _, R.fb, R.bh.trans (Same.upd_none hp), Same.upd_none hp, fun _ _ e => .inl e, fun _ _ e => .inl e⟩
  exact pp _ _ _ _ y (.lst (.inl upd_same) (RpAll.mono (Same.upd_none hp) ds xs hx))
def addL (ka kb : Kd) : D → D → Res D
  | .list xs, .list ys => if itemsC ka xs && itemsC kb ys && decide (xs.length + ys.length ≤ sizeLine) then .ok (.list (xs ++ ys)) else .stuck
  | _, _ => .stuck
def addB (ka kb : Kd) : D → D → Res D
  | .list xs, .list ys => if itemsB ka xs && itemsB kb ys && decide (xs.length + ys.length ≤ sizeLine) then .ok (.list (xs ++ ys)) else .stuck
  | _, _ => .stuck
theorem de_addL (ha : DE X C E ρ a ka ra) (hb : DE X C E ρ b kb rb) (na : noKx ka = true := by rfl) (nb : noKx kb = true := by rfl) : DE X C E ρ (.BinOp a .Add b pos) .ow (ra >>= fun x => rb >>= fun y => addL ka kb x y) :=
  PE_imp (pe_op op_catQ ha hb) fun σ H Q ⟨F, B, R, p⟩ => tD1 (Z := PP X.K .ow Q) R p PP.mono fun x v F1 B1 H1 x1 R1 rx p1 =>
    tD1 (Z := PP X.K .ow Q) R1 p1 PP.mono fun y u F2 B2 H2 x2 R2 ry p2 => by
      unfold addL at p2
      split at p2
      · rename_i xs ys
        split at p2
        · rename_i h
          simp only [Bool.and_eq_true, decide_eq_true_eq] at h
          obtain ⟨⟨h1, h2⟩, h3⟩ := h
          obtain ⟨l, vs, rfl, g1, g2⟩ := (rx.ext x2).items R2.fb R2.bh na h1
          obtain ⟨m, ws, rfl, g3, g4⟩ := ry.items R2.fb R2.bh nb h2
          refine ⟨l, m, vs, ws, rfl, rfl, g1, g3, by rw [g2.length, g4.length]; exact h3, fun p hp => new_list R2 p2 (g2.append g4) hp⟩
        · exact p2.elim
      · exact p2.elim
theorem de_addB (ha : DE X C E ρ a ka ra) (hb : DE X C E ρ b kb rb) (na : noKx ka = true := by rfl) (nb : noKx kb = true := by rfl) : DE X C E ρ (.BinOp a .Add b pos) .owb (ra >>= fun x => rb >>= fun y => addB ka kb x y) :=
  PE_imp (pe_op op_catQ ha hb) fun σ H Q ⟨F, B, R, p⟩ => tD1 (Z := PP X.K .owb Q) R p PP.mono fun x v F1 B1 H1 x1 R1 rx p1 =>
    tD1 (Z := PP X.K .owb Q) R1 p1 PP.mono fun y u F2 B2 H2 x2 R2 ry p2 => by
      unfold addB at p2
      split at p2
      · rename_i xs ys
        split at p2
        · rename_i h
          simp only [Bool.and_eq_true, decide_eq_true_eq] at h
          obtain ⟨⟨h1, h2⟩, h3⟩ := h
          obtain ⟨l, vs, rfl, g1, g2⟩ := (rx.ext x2).itemsB R2.fb R2.bh na h1
          obtain ⟨m, ws, rfl, g3, g4⟩ := ry.itemsB R2.fb R2.bh nb h2
          refine ⟨l, m, vs, ws, rfl, rfl, g1, g3, by rw [g2.length, g4.length]; exact h3, fun p hp => new_listB R2 p2 (g2.append g4) hp⟩
        · exact p2.elim
      · exact p2.elim
/-- [..] * n of a list just made -/
def repL : D → D → Res D
  | .list xs, .int n => if -(2 ^ 63) ≤ n ∧ n < 2 ^ 63 ∧ xs.length * n.toNat ≤ sizeLine then .ok (.list (List.replicate n.toNat xs).flatten) else .stuck
  | _, _ => .stuck
theorem de_rep (ha : DE X C E ρ a .ow ra) (hb : DE X C E ρ b kb rb) : DE X C E ρ (.BinOp a .Mult b pos) .ow (ra >>= fun x => rb >>= fun y => repL x y) :=
  PE_imp (pe_op op_rep ha hb) fun σ H Q ⟨F, B, R, p⟩ => tD1 (Z := PP X.K .ow Q) R p PP.mono fun x v F1 B1 H1 x1 R1 rx p1 =>
    tD1 (Z := PP X.K .ow Q) R1 p1 PP.mono fun y u F2 B2 H2 x2 R2 ry p2 => by
      unfold repL at p2
      split at p2
      · rename_i xs n
        split at p2
        · rename_i h
          obtain ⟨h1, h2, h3⟩ := h
          obtain rfl := ry.int R2.fb R2.bh
          obtain ⟨l, vs, ds', rfl, e, g1, g2, g4, g3⟩ := rx.ext x2
          cases e
          refine ⟨l, n, vs, rfl, rfl, g1, h1, h2, by rw [g3.length]; exact h3, fun p hp => new_list R2 p2 (RpAll.rep _ (RpAll.mono (tupsOf_same H2 F2) _ _ g3)) hp⟩
        · exact p2.elim
      · exact p2.elim
theorem de_addS (ha : DE X C E ρ a ka ra) (hb : DE X C E ρ b kb rb) : DE X C E ρ (.BinOp a .Add b pos) .sh (ra >>= fun x => rb >>= fun y => addS x y) :=
  PE_imp (pe_op op_add_str ha hb) fun σ H Q ⟨F, B, R, p⟩ => tD1 (Z := PP X.K .sh Q) R p PP.mono fun x v F1 B1 H1 x1 R1 rx p1 =>
    tD1 (Z := PP X.K .sh Q) R1 p1 PP.mono fun y u F2 B2 H2 x2 R2 ry p2 => by
      unfold addS at p2
      split at p2
      · split at p2
        · rename_i h
          obtain rfl := (rx.ext x2).str R2.fb R2.bh
          obtain rfl := ry.str R2.fb R2.bh
          exact ⟨_, _, rfl, rfl, h, fin_sh R2 p2 (.str _)⟩
        · exact p2.elim
      · exact p2.elim

/-! ### comparisons -/
theorem dt_val (ha : DE X C E ρ a ka ra) (he : ∀ whole, isTrue a X.env whole = (do let v ← whole; standAt a.pos; holding [v] (truthy v)) := by intro _; rfl) : DT X C E ρ a (ra >>= toB) :=
  PT_imp (pt_val ha he) fun σ H Q ⟨F, B, R, p⟩ => tD1 (Z := TPP Q) R p TPP.mono fun x v F1 B1 H1 x1 R1 rx p1 => by
    cases x with
    | bool b =>
      obtain rfl := rx.bool R1.fb R1.bh
      exact ⟨b, rfl, p1 _ _ _ R1.ext0⟩
    | _ => exact p1.elim
theorem fin_t {Q : Bool → Hp → Prop} {F B H : Hp} {σ : L2.St} {b : Bool} (R : Rel X.K C ρ F B σ H) (p : (Res.ok b).post (TPP Q F B H) (EG X.mg C E)) : Q b H := p _ _ _ R.ext0
/-- a comparison's rule: as a test, as a value -/
theorem dt_cmp {op : CmpOp} {r2 : R2} {f : D → D → Res Bool} (ho : OpR X (compareOp op) r2) (ha : DE X C E ρ a ka ra) (hb : DE X C E ρ b kb rb) (hm : behindInMarks op b = false)
    (k : ∀ x y t, f x y = .ok t → ∀ (H : Hp) (v u : V) (Q : VK), Dp X.K H v x → Dp X.K H u y → Q (.bl t) H → r2 v u H Q)
    (nx : ∀ x y c n, f x y ≠ .exc c n) : DT X C E ρ (.Compare a [op] [b] pos) (ra >>= fun x => rb >>= fun y => f x y) :=
  PT_imp (pt_cmpR ho ha hb hm) fun σ H Q ⟨F, B, R, p⟩ => tD1 (Z := TPP Q) R p TPP.mono fun x v F1 B1 H1 x1 R1 rx p1 =>
    tD1 (Z := TPP Q) R1 p1 TPP.mono fun y u F2 B2 H2 x2 R2 ry p2 => by
      cases q : f x y with
      | ok t =>
        rw [q] at p2
        exact k x y t q H2 v u _ ((rx.ext x2).view R2.fb R2.bh) (ry.view R2.fb R2.bh) ⟨t, rfl, fin_t R2 p2⟩
      | exc c n => exact absurd q (nx x y c n)
      | stuck => rw [q] at p2; exact p2.elim
theorem de_cmp {op : CmpOp} {r2 : R2} {f : D → D → Res Bool} (ho : OpR X (compareOp op) r2) (ha : DE X C E ρ a ka ra) (hb : DE X C E ρ b kb rb) (hm : behindInMarks op b = false)
    (k : ∀ x y t, f x y = .ok t → ∀ (H : Hp) (v u : V) (Q : VK), Dp X.K H v x → Dp X.K H u y → Q (.bl t) H → r2 v u H Q)
    (nx : ∀ x y c n, f x y ≠ .exc c n) : DE X C E ρ (.Compare a [op] [b] pos) .sh (ra >>= fun x => rb >>= fun y => f x y >>= bD) :=
  PE_imp (pe_cmpR ho ha hb hm) fun σ H Q ⟨F, B, R, p⟩ => tD1 (Z := PP X.K .sh Q) R p PP.mono fun x v F1 B1 H1 x1 R1 rx p1 =>
    tD1 (Z := PP X.K .sh Q) R1 p1 PP.mono fun y u F2 B2 H2 x2 R2 ry p2 => by
      cases q : f x y with
      | ok t =>
        rw [q] at p2
        exact k x y t q H2 v u _ ((rx.ext x2).view R2.fb R2.bh) (ry.view R2.fb R2.bh) (fin_sh R2 p2 (.bl t))
      | exc c n => exact absurd q (nx x y c n)
      | stuck => rw [q] at p2; exact p2.elim
/-- a comparison of data: the rule by the data -/
structure CmpD (X : Cx) (op : CmpOp) (f : D → D → Res Bool) : Prop where
  ex : ∃ r2 : R2, OpR X (compareOp op) r2 ∧ ∀ x y t, f x y = .ok t → ∀ (H : Hp) (v u : V) (Q : VK), Dp X.K H v x → Dp X.K H u y → Q (.bl t) H → r2 v u H Q
  nx : ∀ x y c n, f x y ≠ .exc c n
theorem dt_c {op : CmpOp} {f : D → D → Res Bool} (c : CmpD X op f) (ha : DE X C E ρ a ka ra) (hb : DE X C E ρ b kb rb) (hm : behindInMarks op b = false := by first | exact nomark _ | rfl) : DT X C E ρ (.Compare a [op] [b] pos) (ra >>= fun x => rb >>= fun y => f x y) := by
  obtain ⟨r2, ho, k⟩ := c.ex
  exact dt_cmp ho ha hb hm k c.nx
theorem de_c {op : CmpOp} {f : D → D → Res Bool} (c : CmpD X op f) (ha : DE X C E ρ a ka ra) (hb : DE X C E ρ b kb rb) (hm : behindInMarks op b = false := by first | exact nomark _ | rfl) : DE X C E ρ (.Compare a [op] [b] pos) .sh (ra >>= fun x => rb >>= fun y => f x y >>= bD) := by
  obtain ⟨r2, ho, k⟩ := c.ex
  exact de_cmp ho ha hb hm k c.nx
theorem c_int {op : CmpOp} {f : D → D → Res Bool} {p : Int → Int → Bool} (ho : OpR X (compareOp op) (rI0 fun i j => .bl (p i j))) (hf : ∀ x y t, f x y = .ok t → ∃ i j, x = .int i ∧ y = .int j ∧ t = p i j) (nx : ∀ x y c n, f x y ≠ .exc c n) : CmpD X op f :=
  ⟨⟨_, ho, fun x y t e H v u Q rx ry q => by
    obtain ⟨i, j, rfl, rfl, rfl⟩ := hf x y t e
    obtain rfl := Dp.int_inv rx
    obtain rfl := Dp.int_inv ry
    exact ⟨_, _, rfl, rfl, q⟩⟩, nx⟩
theorem c_lt : CmpD X .Lt ltI := c_int op_lt (fun x y t e => by unfold ltI at e; split at e <;> cases e; exact ⟨_, _, rfl, rfl, rfl⟩) fun x y c n e => by unfold ltI at e; split at e <;> cases e
theorem c_le : CmpD X .LtE leI := c_int op_le (fun x y t e => by unfold leI at e; split at e <;> cases e; exact ⟨_, _, rfl, rfl, rfl⟩) fun x y c n e => by unfold leI at e; split at e <;> cases e
theorem c_gt : CmpD X .Gt gtI := c_int op_gt (fun x y t e => by unfold gtI at e; split at e <;> cases e; exact ⟨_, _, rfl, rfl, rfl⟩) fun x y c n e => by unfold gtI at e; split at e <;> cases e
theorem c_ge : CmpD X .GtE geI := c_int op_ge (fun x y t e => by unfold geI at e; split at e <;> cases e; exact ⟨_, _, rfl, rfl, rfl⟩) fun x y c n e => by unfold geI at e; split at e <;> cases e
theorem isS_str {d : D} (h : isS d = true) : ∃ x, d = .str x := by cases d <;> simp [isS] at h; exact ⟨_, rfl⟩
theorem eqv_str (x y : Str) : PyData.eqv (.str x) (.str y) = decide (V.str x = V.str y) := by
  rw [PyData.eqv, dec_str]
theorem c_eq (hu : X.A.units + 64 < cLine) : CmpD X .Eq eqD :=
  ⟨⟨_, op_eq.or (op_eqD hu), fun x y t e H v u Q rx ry q => by
    unfold eqD at e
    split at e
    · rename_i h
      cases e
      simp only [Bool.or_eq_true, Bool.and_eq_true] at h
      rcases h with h | h
      · obtain ⟨a, rfl⟩ := isS_str h.1
        obtain ⟨b, rfl⟩ := isS_str h.2
        obtain rfl := Dp.str_inv rx
        obtain rfl := Dp.str_inv ry
        rw [eqv_str] at q
        exact .inl ⟨rfl, q⟩
      · exact .inr ⟨x, y, rx, ry, h.1, h.2, q⟩
    · cases e⟩, fun x y c n e => by unfold eqD at e; split at e <;> cases e⟩
theorem c_ne (hu : X.A.units + 64 < cLine) : CmpD X .NotEq neD :=
  ⟨⟨_, op_ne.or (op_neD hu), fun x y t e H v u Q rx ry q => by
    unfold neD at e
    split at e
    · rename_i h
      cases e
      simp only [Bool.or_eq_true, Bool.and_eq_true] at h
      rcases h with h | h
      · obtain ⟨a, rfl⟩ := isS_str h.1
        obtain ⟨b, rfl⟩ := isS_str h.2
        obtain rfl := Dp.str_inv rx
        obtain rfl := Dp.str_inv ry
        rw [eqv_str] at q
        exact .inl ⟨rfl, q⟩
      · exact .inr ⟨x, y, rx, ry, h.1, h.2, q⟩
    · cases e⟩, fun x y c n e => by unfold neD at e; split at e <;> cases e⟩
/-- x in a list -/
def inL (x y : D) : Res Bool := match y with
  | .list ds => if SeqAt.shaped x && SeqAt.shaped (.list ds) then .ok (ds.any fun z => PyData.eqv z x) else .stuck
  | _ => .stuck
def ninL (x y : D) : Res Bool := match y with
  | .list ds => if SeqAt.shaped x && SeqAt.shaped (.list ds) then .ok (!ds.any fun z => PyData.eqv z x) else .stuck
  | _ => .stuck
theorem c_in (hu : X.A.units + 65 < cLine) : CmpD X .In inL :=
  ⟨⟨_, op_inD hu, fun x y t e H v u Q rx ry q => by
    unfold inL at e
    split at e
    · split at e
      · rename_i h
        cases e
        simp only [Bool.and_eq_true] at h
        exact ⟨x, _, rx, ry, h.1, h.2, q⟩
      · cases e
    · cases e⟩, fun x y c n e => by unfold inL at e; split at e <;> (try split at e) <;> cases e⟩
theorem c_nin (hu : X.A.units + 65 < cLine) : CmpD X .NotIn ninL :=
  ⟨⟨_, op_notInD hu, fun x y t e H v u Q rx ry q => by
    unfold ninL at e
    split at e
    · split at e
      · rename_i h
        cases e
        simp only [Bool.and_eq_true] at h
        exact ⟨x, _, rx, ry, h.1, h.2, q⟩
      · cases e
    · cases e⟩, fun x y c n e => by unfold ninL at e; split at e <;> (try split at e) <;> cases e⟩
/-- is None, is a Bool -/
def isB : D → Bool
  | .bool _ => true
  | _ => false
def isD (x y : D) : Res Bool := if isN y then .ok (isN x) else match x, y with
  | .bool a, .bool b => .ok (decide (a = b))
  | _, _ => .stuck
def isntD (x y : D) : Res Bool := if isN y then .ok (!isN x) else match x, y with
  | .bool a, .bool b => .ok (!decide (a = b))
  | _, _ => .stuck
theorem isN_none {d : D} (h : isN d = true) : d = .none := by cases d <;> simp [isN] at h; rfl
theorem op_isBl {X : Cx} : OpR X (compareOp .Is) (fun x y H Q => ∃ m n, x = .bl m ∧ y = .bl n ∧ Q (.bl (decide (m = n))) H) := by
  intro pins s σ H x y v u Q I rx ry h
  obtain ⟨m, n, rfl, rfl, q⟩ := h
  cases (show v = Value.bool m from rx)
  cases (show u = Value.bool n from ry)
  by_cases e : m = n
  · subst e
    exact wpAny_is_self rfl ⟨.bl true, H, I, rfl, by simpa using q⟩
  · exact wpAny_is_other rfl (fun z => e (Value.bool.inj z)) ⟨.bl false, H, I, rfl, by simpa [e] using q⟩
theorem op_notBl {X : Cx} : OpR X (compareOp .IsNot) (fun x y H Q => ∃ m n, x = .bl m ∧ y = .bl n ∧ Q (.bl (!decide (m = n))) H) := by
  intro pins s σ H x y v u Q I rx ry h
  obtain ⟨m, n, rfl, rfl, q⟩ := h
  cases (show v = Value.bool m from rx)
  cases (show u = Value.bool n from ry)
  by_cases e : m = n
  · subst e
    exact wpAny_isNot_self rfl ⟨.bl false, H, I, rfl, by simpa using q⟩
  · exact wpAny_isNot_other rfl (fun z => e (Value.bool.inj z)) ⟨.bl true, H, I, rfl, by simpa [e] using q⟩
theorem op_or {X : Cx} {op} {r1 r2 : V → V → Hp → (V → Hp → Prop) → Prop} (h1 : OpR X op r1) (h2 : OpR X op r2) : OpR X op (fun x y H Q => r1 x y H Q ∨ r2 x y H Q) := by
  intro pins s σ H x y v u Q I rx ry h
  rcases h with h | h
  · exact h1 _ _ _ _ _ _ _ _ _ I rx ry h
  · exact h2 _ _ _ _ _ _ _ _ _ I rx ry h
theorem c_is : CmpD X .Is isD :=
  ⟨⟨_, op_or op_isN op_isBl, fun x y t e H v u Q rx ry q => by
    unfold isD at e
    split at e
    · rename_i h
      cases e
      obtain rfl := isN_none h
      refine .inl ⟨Dp.none_inv ry, ?_⟩
      rw [isN_dp rx]
      exact q
    · split at e
      · cases e
        exact .inr ⟨_, _, Dp.bool_inv rx, Dp.bool_inv ry, q⟩
      · cases e⟩, fun x y c n e => by unfold isD at e; split at e <;> (try split at e) <;> cases e⟩
theorem c_isnt : CmpD X .IsNot isntD :=
  ⟨⟨_, op_or op_notN op_notBl, fun x y t e H v u Q rx ry q => by
    unfold isntD at e
    split at e
    · rename_i h
      cases e
      obtain rfl := isN_none h
      refine .inl ⟨Dp.none_inv ry, ?_⟩
      rw [isN_dp rx]
      exact q
    · split at e
      · cases e
        exact .inr ⟨_, _, Dp.bool_inv rx, Dp.bool_inv ry, q⟩
      · cases e⟩, fun x y c n e => by unfold isntD at e; split at e <;> (try split at e) <;> cases e⟩
end
end DL

/-! DL4: chains, and/or, subscripts, slices, displays, calls of builtins by name -/
namespace DL
open PySem PySem.Spec L2
open PyProof.Rows hiding St

section
variable {X : Cx} {C : Gd} {E : XK} {ρ : Env} {a b c : Expr} {ka kb kc : Kd} {ra rb rc : Res D} {pos : Pos}

/-! ### chains of comparisons -/
structure DCh (X : Cx) (C : Gd) (E : XK) (ρ : Env) (ops : List CmpOp) (rs : List Expr) (f : D → Res Bool) : Prop where
  t : ∀ (pos : Pos) (pins : List (Addr × Obj)) (s : Shared) (σ : L2.St) (F B H : Hp) (Q : Bool → Hp → Prop) (u : Value) (v : V) (x : D), Inv X pins σ H s → RelV v u → Rel X.K C ρ F B σ H → Dp X.K H v x →
    (f x).post (TPP Q F B H) (EG X.mg C E) → wpAny (model X.prog X.w) X.A (testChain pos u ops (evalEach rs X.env)) (TP X pins σ Q) X.xe s
  e : ∀ (pos : Pos) (pins : List (Addr × Obj)) (s : Shared) (σ : L2.St) (F B H : Hp) (Q : Bool → Hp → Prop) (u : Value) (v : V) (x : D), Inv X pins σ H s → RelV v u → Rel X.K C ρ F B σ H → Dp X.K H v x →
    (f x).post (TPP Q F B H) (EG X.mg C E) → wpAny (model X.prog X.w) X.A (compareChain pos u ops (evalEach rs X.env)) (EP X pins σ fun v' H' => ∃ t, v' = .bl t ∧ Q t H') X.xe s
/-- the two values and the comparison -/
theorem ch_core {op : CmpOp} {g : D → D → Res Bool} {h : D → Bool → Res Bool} {x : D} {v : V} {F B H : Hp} {σ : L2.St} {Q : Bool → Hp → Prop} {Qc : V → VK} (r2 : R2) (k : ∀ x y t, g x y = .ok t → ∀ (H : Hp) (v u : V) (Q : VK), Dp X.K H v x → Dp X.K H u y → Q (.bl t) H → r2 v u H Q)
    (nx : ∀ x y c n, g x y ≠ .exc c n) (R : Rel X.K C ρ F B σ H) (rx : Dp X.K H v x) (p : (rb >>= fun y => g x y >>= h y).post (TPP Q F B H) (EG X.mg C E))
    (fin : ∀ y u t F2 B2 H2, Rel X.K C ρ F2 B2 σ H2 → Dp X.K H2 u y → (h y t).post (TPP Q F2 B2 H2) (EG X.mg C E) → Qc u (.bl t) H2) :
    tD X.K X.mg C E ρ kb rb σ H fun u H1 => r2 v u H1 (Qc u) :=
  tD1 (Z := TPP Q) R p TPP.mono fun y u F2 B2 H2 x2 R2 ry p2 => by
    cases q : g x y with
    | ok t =>
      rw [q] at p2
      have ry' := ry.view R2.fb R2.bh
      exact k x y t q H2 v u _ (Dp.mono x2.h x v rx) ry' (fin y u t F2 B2 H2 R2 ry' p2)
    | exc c n => exact absurd q (nx x y c n)
    | stuck => rw [q] at p2; exact p2.elim
theorem ch_last {op : CmpOp} {g : D → D → Res Bool} (c : CmpD X op g) (hb : DE X C E ρ b kb rb) : DCh X C E ρ [op] [b] (fun x => rb >>= fun y => g x y) := by
  obtain ⟨r2, ho, k⟩ := c.ex
  have eq : ∀ x, (rb >>= fun y => g x y) = (rb >>= fun y => g x y >>= fun t => Res.ok t) := fun x => by
    congr 1
    funext y
    cases g x y <;> rfl
  refine ⟨fun pos pins s σ F B H Q u v x I r R rx p => ?_, fun pos pins s σ F B H Q u v x I r R rx p => ?_⟩
  · rw [eq] at p
    refine PyProof.Rows.test_last (thn (hb.run pins s σ H _ I (ch_core (op := op) (h := fun _ t => .ok t) (Qc := fun _ z H2 => ∃ t, z = .bl t ∧ Q t H2) r2 k c.nx R rx p fun y u t F2 B2 H2 R2 _ p2 => ⟨t, rfl, fin_t R2 p2⟩)) fun w' s1 ⟨y', H1, I1, r1, q1⟩ => thn (ho pins s1 σ H1 v y' u w' _ I1 r r1 q1) fun d s2 ⟨z, H2, I2, r2', t, e, q2⟩ => ?_)
    subst e
    cases r2'
    exact wpAny_truthy_bool ⟨H2, I2, q2⟩
  · rw [eq] at p
    exact PyProof.Rows.chain_last (thn (hb.run pins s σ H _ I (ch_core (op := op) (h := fun _ t => .ok t) (Qc := fun _ z H2 => ∃ t, z = .bl t ∧ Q t H2) r2 k c.nx R rx p fun y u t F2 B2 H2 R2 _ p2 => ⟨t, rfl, fin_t R2 p2⟩)) fun w' s1 ⟨y', H1, I1, r1, q1⟩ => ho pins s1 σ H1 v y' u w' _ I1 r r1 q1)
theorem ch_link {op op' : CmpOp} {ops : List CmpOp} {b' : Expr} {rs : List Expr} {g : D → D → Res Bool} {f : D → Res Bool} (c : CmpD X op g) (hb : DE X C E ρ b kb rb) (ht : DCh X C E ρ (op' :: ops) (b' :: rs) f) :
    DCh X C E ρ (op :: op' :: ops) (b :: b' :: rs) (fun x => rb >>= fun y => g x y >>= fun t => if t then f y else .ok false) := by
  obtain ⟨r2, ho, k⟩ := c.ex
  refine ⟨fun pos pins s σ F B H Q u v x I r R rx p => ?_, fun pos pins s σ F B H Q u v x I r R rx p => ?_⟩
  · refine PyProof.Rows.test_link (thn (hb.run pins s σ H _ I (ch_core (op := op) (h := fun y t => if t then f y else .ok false) (Qc := fun u z H2 => ∃ t y F2 B2, z = .bl t ∧ Rel X.K C ρ F2 B2 σ H2 ∧ Dp X.K H2 u y ∧ (if t then f y else Res.ok false).post (TPP Q F2 B2 H2) (EG X.mg C E)) r2 k c.nx R rx p
      fun y u t F2 B2 H2 R2 ry p2 => ⟨t, y, F2, B2, rfl, R2, ry, p2⟩)) fun w' s1 ⟨y', H1, I1, r1, q1⟩ => thn (ho pins s1 σ H1 v y' u w' _ I1 r r1 q1) fun d s2 ⟨z, H2, I2, r2', t, y, F2, B2, e, R2, ry, p2⟩ => ?_)
    subst e
    cases r2'
    refine wpAny_truthy_bool ?_
    cases t with
    | false => exact (if_neg Bool.false_ne_true).symm ▸ ⟨H2, I2, fin_t R2 p2⟩
    | true => exact (if_pos rfl).symm ▸ ht.t pos pins s2 σ F2 B2 H2 Q w' y' y I2 r1 R2 ry p2
  · refine PyProof.Rows.chain_link (thn (hb.run pins s σ H _ I (ch_core (op := op) (h := fun y t => if t then f y else .ok false) (Qc := fun u z H2 => ∃ t y F2 B2, z = .bl t ∧ Rel X.K C ρ F2 B2 σ H2 ∧ Dp X.K H2 u y ∧ (if t then f y else Res.ok false).post (TPP Q F2 B2 H2) (EG X.mg C E)) r2 k c.nx R rx p
      fun y u t F2 B2 H2 R2 ry p2 => ⟨t, y, F2, B2, rfl, R2, ry, p2⟩)) fun w' s1 ⟨y', H1, I1, r1, q1⟩ => thn (ho pins s1 σ H1 v y' u w' _ I1 r r1 q1) fun d s2 ⟨z, H2, I2, r2', t, y, F2, B2, e, R2, ry, p2⟩ => ?_)
    subst e
    cases r2'
    refine wpAny_truthy_bool ?_
    cases t with
    | false => exact (if_neg Bool.false_ne_true).symm ▸ ⟨.bl false, H2, I2, rfl, false, rfl, fin_t R2 p2⟩
    | true => exact (if_pos rfl).symm ▸ ht.e pos pins s2 σ F2 B2 H2 Q w' y' y I2 r1 R2 ry p2
theorem dt_chain {op op' : CmpOp} {ops : List CmpOp} {b' : Expr} {rs : List Expr} {f : D → Res Bool} (ha : DE X C E ρ a ka ra) (h : DCh X C E ρ (op :: op' :: ops) (b :: b' :: rs) f) (hm : lastMarks (op :: op' :: ops) (b :: b' :: rs) = false := by with_unfolding_all rfl) :
    DT X C E ρ (.Compare a (op :: op' :: ops) (b :: b' :: rs) pos) (ra >>= f) := by
  refine ⟨fun pins s σ H Q I ⟨F, B, R, p⟩ => ?_⟩
  refine PyProof.Rows.isTrue_chain (thn (ha.run pins s σ H (fun v H1 => ∃ x F1 B1, Rel X.K C ρ F1 B1 σ H1 ∧ Dp X.K H1 v x ∧ (f x).post (TPP Q F1 B1 H1) (EG X.mg C E)) I (tD1 (Z := TPP Q) R p TPP.mono fun x v F1 B1 H1 x1 R1 rx p1 => ⟨x, F1, B1, R1, rx.view R1.fb R1.bh, p1⟩)) fun u s1 ⟨v, H1, I1, r1, x, F1, B1, R1, rx, p1⟩ => ?_) hm
  exact h.t pos pins s1 σ F1 B1 H1 Q u v x I1 r1 R1 rx p1
theorem de_chain {op op' : CmpOp} {ops : List CmpOp} {b' : Expr} {rs : List Expr} {f : D → Res Bool} (ha : DE X C E ρ a ka ra) (h : DCh X C E ρ (op :: op' :: ops) (b :: b' :: rs) f) (hm : lastMarks (op :: op' :: ops) (b :: b' :: rs) = false := by with_unfolding_all rfl) :
    DE X C E ρ (.Compare a (op :: op' :: ops) (b :: b' :: rs) pos) .sh (ra >>= f >>= bD) := by
  refine ⟨fun pins s σ H Q I ⟨F, B, R, p⟩ => ?_⟩
  have p' : (ra >>= f).post (TPP (fun t H' => Q (.bl t) H') F B H) (EG X.mg C E) := Res.post_mono (Res.post_bind p) fun t _ pt => fun F' B' H' x => pt F' B' H' (.bl t) x (.bl t)
  refine PyProof.Rows.Compare_chain (thn (ha.run pins s σ H (fun v H1 => ∃ x F1 B1, Rel X.K C ρ F1 B1 σ H1 ∧ Dp X.K H1 v x ∧ (f x).post (TPP (fun t H' => Q (.bl t) H') F1 B1 H1) (EG X.mg C E)) I (tD1 (Z := TPP fun t H' => Q (.bl t) H') R p' TPP.mono fun x v F1 B1 H1 x1 R1 rx p1 => ⟨x, F1, B1, R1, rx.view R1.fb R1.bh, p1⟩)) fun u s1 ⟨v, H1, I1, r1, x, F1, B1, R1, rx, p1⟩ => ?_) hm
  exact thn (h.e pos pins s1 σ F1 B1 H1 _ u v x I1 r1 R1 rx p1) fun u' s2 ⟨v', H2, I2, r2, t, e, q⟩ => by
    subst e
    exact ⟨_, H2, I2, r2, q⟩

/-! ### and, or, not, if -/
variable {rest : List Expr} {ta tb tc : Res Bool}
theorem dt_w {e : Expr} {r : Res Bool} (h : DW X C E ρ e r) : DT X C E ρ e r := PW.pt h
theorem dw_and1 (h : DT X C E ρ a ta) : DW X C E ρ (.BoolOp .And [a] pos) ta := pw_and1 h
theorem dw_or1 (h : DT X C E ρ a ta) : DW X C E ρ (.BoolOp .Or [a] pos) ta := pw_or1 h
theorem dw_and (ha : DT X C E ρ a ta) (hb : DW X C E ρ (.BoolOp .And (b :: rest) pos) tb) : DW X C E ρ (.BoolOp .And (a :: b :: rest) pos) (ta >>= fun t => if t then tb else .ok false) :=
  PW_imp (pw_and ha hb) fun σ H Q ⟨F, B, R, p⟩ => tT1 (Z := TPP Q) R p TPP.mono fun t F1 B1 H1 x1 R1 p1 => by
    cases t with
    | false => exact (if_neg Bool.false_ne_true).symm ▸ fin_t R1 p1
    | true => exact (if_pos rfl).symm ▸ ⟨F1, B1, R1, p1⟩
theorem dw_or (ha : DT X C E ρ a ta) (hb : DW X C E ρ (.BoolOp .Or (b :: rest) pos) tb) : DW X C E ρ (.BoolOp .Or (a :: b :: rest) pos) (ta >>= fun t => if t then .ok true else tb) :=
  PW_imp (pw_or ha hb) fun σ H Q ⟨F, B, R, p⟩ => tT1 (Z := TPP Q) R p TPP.mono fun t F1 B1 H1 x1 R1 p1 => by
    cases t with
    | false => exact (if_neg Bool.false_ne_true).symm ▸ ⟨F1, B1, R1, p1⟩
    | true => exact (if_pos rfl).symm ▸ fin_t R1 p1
theorem dt_not (ha : DT X C E ρ a ta) : DT X C E ρ (.UnaryOp .Not a pos) (ta >>= fun t => .ok (!t)) :=
  PT_imp (pt_not ha) fun σ H Q ⟨F, B, R, p⟩ => tT1 (Z := TPP Q) R p TPP.mono fun t F1 B1 H1 x1 R1 p1 => fin_t R1 p1
theorem de_one {op : BoolOp} (ha : DE X C E ρ a .sh ra) : DE X C E ρ (.BoolOp op [a] pos) .sh ra := pe_one ha
theorem de_and (ha : DE X C E ρ a ka ra) (hb : DE X C E ρ (.BoolOp .And (b :: rest) pos) .sh rb) : DE X C E ρ (.BoolOp .And (a :: b :: rest) pos) .sh (ra >>= toB >>= fun t => if t then rb else .ok (.bool false)) :=
  PE_imp (pe_and ha hb) fun σ H Q ⟨F, B, R, p⟩ => by
    rw [Res.bind_assoc] at p
    exact tD1 (Z := PP X.K .sh Q) R p PP.mono fun x v F1 B1 H1 x1 R1 rx p1 => by
      cases x with
      | bool t =>
        obtain rfl := rx.bool R1.fb R1.bh
        refine ⟨t, rfl, ?_⟩
        cases t with
        | false => exact (if_neg Bool.false_ne_true).symm ▸ fin_sh R1 p1 (.bl false)
        | true => exact (if_pos rfl).symm ▸ ⟨F1, B1, R1, p1⟩
      | _ => exact p1.elim
theorem de_or (ha : DE X C E ρ a ka ra) (hb : DE X C E ρ (.BoolOp .Or (b :: rest) pos) .sh rb) : DE X C E ρ (.BoolOp .Or (a :: b :: rest) pos) .sh (ra >>= toB >>= fun t => if t then .ok (.bool true) else rb) :=
  PE_imp (pe_or ha hb) fun σ H Q ⟨F, B, R, p⟩ => by
    rw [Res.bind_assoc] at p
    exact tD1 (Z := PP X.K .sh Q) R p PP.mono fun x v F1 B1 H1 x1 R1 rx p1 => by
      cases x with
      | bool t =>
        obtain rfl := rx.bool R1.fb R1.bh
        refine ⟨t, rfl, ?_⟩
        cases t with
        | false => exact (if_neg Bool.false_ne_true).symm ▸ ⟨F1, B1, R1, p1⟩
        | true => exact (if_pos rfl).symm ▸ fin_sh R1 p1 (.bl true)
      | _ => exact p1.elim
def notD : D → Res D
  | .bool b => .ok (.bool (!b))
  | _ => .stuck
theorem de_not (ha : DE X C E ρ a ka ra) : DE X C E ρ (.UnaryOp .Not a pos) .sh (ra >>= notD) :=
  PE_imp (pe_not ha) fun σ H Q ⟨F, B, R, p⟩ => tD1 (Z := PP X.K .sh Q) R p PP.mono fun x v F1 B1 H1 x1 R1 rx p1 => by
    cases x with
    | bool t =>
      obtain rfl := rx.bool R1.fb R1.bh
      exact ⟨t, rfl, fin_sh R1 p1 (.bl _)⟩
    | _ => exact p1.elim
theorem de_if {k : Kd} (hc : DT X C E ρ c tc) (ha : DE X C E ρ a k ra) (hb : DE X C E ρ b k rb) : DE X C E ρ (.IfExp c a b pos) k (tc >>= fun t => if t then ra else rb) :=
  PE_imp (pe_ifExp hc ha hb) fun σ H Q ⟨F, B, R, p⟩ => tT1 (Z := PP X.K k Q) R p PP.mono fun t F1 B1 H1 x1 R1 p1 => by
    cases t with
    | false => exact (if_neg Bool.false_ne_true).symm ▸ ⟨F1, B1, R1, p1⟩
    | true => exact (if_pos rfl).symm ▸ ⟨F1, B1, R1, p1⟩

/-! ### subscripts -/
theorem atI_ix {α : Type} {ds : List α} {i : Int} {d : α} (h : atI ds i = some d) : ∃ j, ixN ds.length i = some j ∧ ds[j]? = some d := by
  unfold atI at h
  cases q : ixN ds.length i with
  | none => rw [q] at h; cases h
  | some j => rw [q] at h; exact ⟨j, rfl, h⟩
theorem atI_of {α : Type} {xs : List α} {i : Int} {j n : Nat} {v : α} (hn : xs.length = n) (h : ixN n i = some j) (e : xs[j]? = some v) : atI xs i = some v := by
  unfold atI
  rw [hn, h]
  exact e
theorem de_ix (ha : DE X C E ρ a ka ra) (hb : DE X C E ρ b kb rb) (hp : PlainIx b := by intro _ _; rfl) : DE X C E ρ (.Subscript a b pos) (ik ka) (ra >>= fun x => rb >>= fun y => ixD x y) :=
  PE_imp (pe_ix (ix_list.or ix_tup) ha hb hp) fun σ H Q ⟨F, B, R, p⟩ => tD1 (Z := PP X.K (ik ka) Q) R p PP.mono fun x v F1 B1 H1 x1 R1 rx p1 =>
    tD1 (Z := PP X.K (ik ka) Q) R1 p1 PP.mono fun y u F2 B2 H2 x2 R2 ry p2 => by
      unfold ixD at p2
      split at p2
      · rename_i ds i
        obtain rfl := ry.int R2.fb R2.bh
        split at p2
        · rename_i d hd
          obtain ⟨l, xs, rfl, h1, hl, h2⟩ := (rx.ext x2).item R2.fb R2.bh
          obtain ⟨j, hj, hd'⟩ := atI_ix hd
          obtain ⟨w, hw, rw'⟩ := h2 j d hd'
          exact .inl ⟨l, xs, i, w, rfl, rfl, h1, atI_of hl hj hw, fin_k R2 p2 (rw'.anyP (own_ik ka))⟩
        · exact p2.elim
      · rename_i ds i
        obtain rfl := ry.int R2.fb R2.bh
        split at p2
        · rename_i d hd
          obtain ⟨l, xs, rfl, h1, hl, h2⟩ := (rx.ext x2).itemT R2.fb R2.bh
          obtain ⟨j, hj, hd'⟩ := atI_ix hd
          obtain ⟨w, hw, rw'⟩ := h2 j d hd'
          exact .inr ⟨l, xs, i, w, rfl, rfl, h1, atI_of hl hj hw, fin_k R2 p2 (rw'.anyP (own_ik ka))⟩
        · exact p2.elim
      · exact p2.elim

/-! ### slices of lists -/
/-- a slice's part -/
def DO (X : Cx) (C : Gd) (E : XK) (ρ : Env) (e : Option Expr) (r : Res (Option Int)) : Prop :=
  PO X e (fun σ H Q => ∃ F B, Rel X.K C ρ F B σ H ∧ r.post (fun o => ∀ F' B' H', Ext F B H F' B' H' → Q o H') (EG X.mg C E))
def toI : D → Res (Option Int)
  | .int i => .ok (some i)
  | _ => .stuck
theorem PO_imp {e : Option Expr} {t t' : TO} (h : PO X e t) (k : ∀ σ H Q, t' σ H Q → t σ H Q) : PO X e t' := ⟨fun pins s σ H Q I q => h.run pins s σ H Q I (k σ H Q q)⟩
theorem do_none : DO X C E ρ none (.ok none) := PO_imp po_none fun σ H Q ⟨F, B, R, p⟩ => p _ _ _ R.ext0
theorem do_some (ha : DE X C E ρ a ka ra) : DO X C E ρ (some a) (ra >>= toI) :=
  PO_imp (po_some ha) fun σ H Q ⟨F, B, R, p⟩ => tD1 (Z := fun F B H (o : Option Int) => ∀ F' B' H', Ext F B H F' B' H' → Q o H') R p (fun x z F' B' H' y => z F' B' H' (x.trans y)) fun x v F1 B1 H1 x1 R1 rx p1 => by
    cases x with
    | int i =>
      obtain rfl := rx.int R1.fb R1.bh
      exact ⟨i, rfl, p1 _ _ _ R1.ext0⟩
    | _ => exact p1.elim
def cutD {α : Type} (xs : List α) (lo hi : Option Int) : List α := (xs.drop (HT.sIx xs.length 0 lo)).take (HT.sIx xs.length xs.length hi - HT.sIx xs.length 0 lo)
def itemsX (b : Bool) (k : Kd) (ds : List D) : Bool := match b with
  | true => itemsC k ds
  | false => itemsB k ds
def slcL (b : Bool) (ka : Kd) (x : D) (lo hi : Option Int) : Res D := match x with
  | .list xs => if itemsX b ka xs then .ok (.list (cutD xs lo hi)) else .stuck
  | _ => .stuck
theorem cut_rp {S : Hp} {xs : List V} {ds : List D} (h : RpAll X.K S xs ds) (lo hi : Option Int) : RpAll X.K S (cutV xs lo hi) (cutD ds lo hi) := by
  unfold cutV cutD
  rw [h.length]
  exact (h.drop _).take _
theorem tO1 {α : Type} {F B H : Hp} {σ : L2.St} {ro : Res (Option Int)} {g : Option Int → Res α} {Z : Hp → Hp → Hp → α → Prop} {Qa : Option Int → Hp → Prop} (R : Rel X.K C ρ F B σ H) (h : (ro >>= g).post (Z F B H) (EG X.mg C E))
    (mono : ∀ {F B H F1 B1 H1 : Hp} {a : α}, Ext F B H F1 B1 H1 → Z F B H a → Z F1 B1 H1 a)
    (k : ∀ o F1 B1 H1, Ext F B H F1 B1 H1 → Rel X.K C ρ F1 B1 σ H1 → (g o).post (Z F1 B1 H1) (EG X.mg C E) → Qa o H1) :
    ∃ F B, Rel X.K C ρ F B σ H ∧ ro.post (fun o => ∀ F' B' H', Ext F B H F' B' H' → Qa o H') (EG X.mg C E) :=
  ⟨F, B, R, Res.post_mono (Res.post_bind h) fun o _ hg => fun F' B' H' x => k o F' B' H' x (R.ext x) (Res.post_mono hg fun a _ z => mono x z)⟩
theorem de_slice {lo hi : Option Expr} {p2 : Pos} {rl rh : Res (Option Int)} (ha : DE X C E ρ a ka ra) (hl : DO X C E ρ lo rl) (hh : DO X C E ρ hi rh) (na : noKx ka = true := by rfl) :
    DE X C E ρ (.Subscript a (.Slice lo hi none p2) pos) .ow (ra >>= fun x => rl >>= fun l => rh >>= fun h => slcL true ka x l h) :=
  PE_imp (pe_slice sl_list ha hl hh) fun σ H Q ⟨F, B, R, p⟩ => tD1 (Z := PP X.K .ow Q) R p PP.mono fun x v F1 B1 H1 x1 R1 rx p1 =>
    tO1 (Z := PP X.K .ow Q) R1 p1 PP.mono fun l F2 B2 H2 x2 R2 p2 => tO1 (Z := PP X.K .ow Q) R2 p2 PP.mono fun h F3 B3 H3 x3 R3 p3 => by
      unfold slcL at p3
      split at p3
      · rename_i ds
        split at p3
        · rename_i hc
          obtain ⟨l', xs, rfl, h1, h2⟩ := (rx.ext (x2.trans x3)).items R3.fb R3.bh na hc
          exact ⟨l', xs, rfl, .inl h1, fun q hq => new_list R3 p3 (cut_rp h2 _ _) hq⟩
        · exact p3.elim
      · exact p3.elim
theorem de_sliceB {lo hi : Option Expr} {p2 : Pos} {rl rh : Res (Option Int)} (ha : DE X C E ρ a ka ra) (hl : DO X C E ρ lo rl) (hh : DO X C E ρ hi rh) (na : noKx ka = true := by rfl) :
    DE X C E ρ (.Subscript a (.Slice lo hi none p2) pos) .owb (ra >>= fun x => rl >>= fun l => rh >>= fun h => slcL false ka x l h) :=
  PE_imp (pe_slice sl_list ha hl hh) fun σ H Q ⟨F, B, R, p⟩ => tD1 (Z := PP X.K .owb Q) R p PP.mono fun x v F1 B1 H1 x1 R1 rx p1 =>
    tO1 (Z := PP X.K .owb Q) R1 p1 PP.mono fun l F2 B2 H2 x2 R2 p2 => tO1 (Z := PP X.K .owb Q) R2 p2 PP.mono fun h F3 B3 H3 x3 R3 p3 => by
      unfold slcL at p3
      split at p3
      · rename_i ds
        split at p3
        · rename_i hc
          obtain ⟨l', xs, rfl, h1, h2⟩ := (rx.ext (x2.trans x3)).itemsB R3.fb R3.bh na hc
          exact ⟨l', xs, rfl, .inl h1, fun q hq => new_listB R3 p3 (cut_rp h2 _ _) hq⟩
        · exact p3.elim
      · exact p3.elim

/-! ### displays -/
def sel (b : Bool) (F B : Hp) : Hp := if b then F else B
def kX (b : Bool) : Kd := if b then .sh else .bo
/-- items of a display, taken over (b: into the frozen part, else the borrowed one) -/
def DL_ (X : Cx) (C : Gd) (E : XK) (ρ : Env) (b : Bool) (es : List Expr) (r : Res (List D)) : Prop :=
  PA X es (fun σ H Q => ∃ F B, Rel X.K C ρ F B σ H ∧ r.post (fun ds => ∀ F' B' H' vs, Ext F B H F' B' H' → RpAll X.K (sel b F' B') vs ds → Q vs H') (EG X.mg C E))
theorem sel_ext {t : Bool} {F B H F' B' H' : Hp} (x : Ext F B H F' B' H') : Same (sel t F B) (sel t F' B') := by
  cases t with
  | true => exact x.f
  | false => exact x.b
theorem RepX.kX {t : Bool} {K : PySem.W.Frag} {P F B H : Hp} {v : V} {d : D} (r : RepX K P F B H (kX t) v d) : Rp K (sel t F B) v d := by
  cases t <;> exact r
theorem dl_nil {t : Bool} : DL_ X C E ρ t [] (.ok []) := PA_imp pa_nil fun σ H Q ⟨F, B, R, p⟩ => p _ _ _ _ R.ext0 .nil
theorem dl_cons {t : Bool} {es : List Expr} {rs : Res (List D)} (ha : DE X C E ρ a (kX t) ra) (hs : DL_ X C E ρ t es rs) (he : starEach (a :: es) X.env = (false, eval a X.env) :: starEach es X.env := by rfl) : DL_ X C E ρ t (a :: es) (ra >>= fun d => rs >>= fun ds => .ok (d :: ds)) :=
  PA_imp (pa_cons ha hs he) fun σ H Q ⟨F, B, R, p⟩ => tD1 (Z := fun F B H ds => ∀ F' B' H' vs, Ext F B H F' B' H' → RpAll X.K (sel t F' B') vs ds → Q vs H') R p (fun x z F' B' H' vs y r => z F' B' H' vs (x.trans y) r) fun d v F1 B1 H1 x1 R1 rx p1 =>
    ⟨F1, B1, R1, Res.post_mono (Res.post_bind p1) fun ds _ pd => fun F2 B2 H2 vs x2 rs => pd F2 B2 H2 _ x2 (.cons (Rp.mono (sel_ext x2) d v (RepX.kX rx)) rs)⟩
/-- a star before a list (or a tuple) -/
def tStar (ta : TE) (tr : TA) (K : PySem.W.Frag) : TA := fun σ H Q => ta σ H fun x H1 => ∃ a xs, x = .ref a ∧ (SqL K H1 a xs ∨ SqT K H1 a xs) ∧ tr σ H1 fun ys H2 => Q (xs ++ ys) H2
theorem pa_star {e : Expr} {es : List Expr} {te : TE} {t : TA} {p : Pos} (ha : PE X e te) (hr : PA X es t) (hs : starEach (.Starred e p :: es) X.env = (true, eval e X.env) :: starEach es X.env := by rfl) : PA X (.Starred e p :: es) (tStar te t X.K) := by
  refine ⟨fun pos pins s σ H Q I h => ?_⟩
  refine PySem.W.items_star (thn (ha.run pins s σ H _ I h) fun u s1 ⟨x, H1, I1, r1, a, xs, e, hq, q1⟩ => ?_) hs
  subst e
  cases r1
  have go : ∀ (its : List Value) (h' : Heap), Vals xs its → (∀ b o, s1.heap.get? b = some o → h'.get? b = some o) → wpAny (model X.prog X.w) X.A (spliced (backTo pos (starEach es X.env))) (fun vs s₃ => AP X pins σ Q (its ++ vs) s₃) X.xe { s1 with heap := h' } := fun its h' rv hk =>
    thn (hr.run pos pins _ σ H1 _ (I1.kept (t' := s1.toks) hk) q1) fun us s2 ⟨ys, H2, I2, r2, q2⟩ => ⟨xs ++ ys, H2, I2, rv.append r2, q2⟩
  rcases hq with hq | hq
  · obtain ⟨its, rv, ⟨o, n, ho, hc, hd0, hd⟩, hz⟩ := I1.list hq
    have hT' : s1.TypeIs (.ref a) "list" := ⟨o, ho, hc⟩
    have hsz : its.toArray.size ≤ sizeLine := by rw [List.size_toArray, ← rv.length]; exact hz
    unfold PySem.W.StarOf notIterableAtAll
    exact wpAny_bind (wpAny_specialOf hT' PySem.F.slot_list_iter.lookup (wpAny_pure ⟨rfl, wpAny_collect_seq a (.inl rfl) ho hc hd (fun h' hk => go its h' rv hk) hsz⟩))
  · obtain ⟨its, rv, ⟨o, ho, hc, n, hd⟩, hz⟩ := I1.tuple hq
    have hT' : s1.TypeIs (.ref a) "tuple" := ⟨o, ho, hc⟩
    have hsz : its.toArray.size ≤ sizeLine := by rw [List.size_toArray, ← rv.length]; exact hz
    unfold PySem.W.StarOf notIterableAtAll
    exact wpAny_bind (wpAny_specialOf hT' PySem.F.slot_tuple_iter.lookup (wpAny_pure ⟨rfl, wpAny_collect_seq a (.inr rfl) ho hc hd (fun h' hk => go its h' rv hk) hsz⟩))
/-- the items behind a star -/
def starL (t : Bool) (k : Kd) : D → Res (List D)
  | .list xs => if itemsX t k xs then .ok xs else .stuck
  | _ => .stuck
theorem dl_star {t : Bool} {es : List Expr} {rs : Res (List D)} {p : Pos} (ha : DE X C E ρ a ka ra) (hs : DL_ X C E ρ t es rs) (na : noKx ka = true := by rfl) (he : starEach (.Starred a p :: es) X.env = (true, eval a X.env) :: starEach es X.env := by rfl) :
    DL_ X C E ρ t (.Starred a p :: es) (ra >>= starL t ka >>= fun xs => rs >>= fun ds => .ok (xs ++ ds)) :=
  PA_imp (pa_star ha hs he) fun σ H Q ⟨F, B, R, p⟩ => by
    rw [Res.bind_assoc] at p
    refine tD1 (Z := fun F B H ds => ∀ F' B' H' vs, Ext F B H F' B' H' → RpAll X.K (sel t F' B') vs ds → Q vs H') R p (fun x z F' B' H' vs y r => z F' B' H' vs (x.trans y) r) fun d v F1 B1 H1 x1 R1 rx p1 => ?_
    unfold starL at p1
    split at p1
    · rename_i ds
      split at p1
      · rename_i hc
        have key : ∃ l xs, v = .ref l ∧ Rd H1 l (.lst xs) ∧ RpAll X.K (sel t (tupsOf H1 F1) (tupsOf H1 B1)) xs ds := by
          cases t with
          | true => exact rx.items R1.fb R1.bh na hc
          | false => exact rx.itemsB R1.fb R1.bh na hc
        obtain ⟨l, xs, rfl, h1, h2⟩ := key
        have y := Ext.tups R1.fb R1.bh
        refine ⟨l, xs, rfl, .inl (.inl h1), tupsOf H1 F1, tupsOf H1 B1, R1.ext y, Res.post_mono (Res.post_bind p1) fun es _ pd => fun F2 B2 H2 vs x2 rs => ?_⟩
        exact pd F2 B2 H2 _ (y.trans x2) (RpAll.append (RpAll.mono (sel_ext x2) ds xs h2) rs)
      · exact p1.elim
    · exact p1.elim
def mkL (ds : List D) : Res D := if ds.length ≤ sizeLine then .ok (.list ds) else .stuck
def mkT (ds : List D) : Res D := if ds.length ≤ sizeLine then .ok (.tuple ds) else .stuck
def oX (b : Bool) : Kd := if b then .ow else .owb
theorem de_list {t : Bool} {es : List Expr} {rs : Res (List D)} (h : DL_ X C E ρ t es rs) : DE X C E ρ (.List es pos) (oX t) (rs >>= mkL) :=
  PE_imp (pe_lst h) fun σ H Q ⟨F, B, R, p⟩ => ⟨F, B, R, Res.post_mono (Res.post_bind p) fun ds _ pd => fun F1 B1 H1 vs x rs => by
    unfold mkL at pd
    split at pd
    · rename_i hz
      refine ⟨by rw [rs.length]; exact hz, fun q hq => ?_⟩
      have bn : B1 q = none := by
        cases e : B1 q with
        | none => rfl
        | some o => have := x.bh _ _ e; rw [hq] at this; cases this
      have y : Ext F B H F1 B1 (upd H1 q (.lst vs)) := ⟨x.f, x.b, x.fb, x.bh.trans (Same.upd_none hq), x.h.trans (Same.upd_none hq), x.nf, x.nb⟩
      cases t with
      | true => exact pd _ _ _ _ y ⟨q, vs, ds, rfl, rfl, upd_same, bn, x.h.free hq, rs⟩
      | false => exact pd _ _ _ _ y ⟨q, vs, ds, rfl, rfl, upd_same, bn, x.h.free hq, rs⟩
    · exact pd.elim⟩
/-- a new tuple -/
theorem Ext.newT {F B H F1 B1 H1 : Hp} {q : Addr} {xs : List V} (x : Ext F B H F1 B1 H1) (hq : H1 q = none) : Ext F B H (upd F1 q (.tup xs)) (upd B1 q (.tup xs)) (upd H1 q (.tup xs)) := by
  have bn : B1 q = none := by
    cases e : B1 q with
    | none => rfl
    | some o => have := x.bh _ _ e; rw [hq] at this; cases this
  have fn : F1 q = none := x.fb.free bn
  refine ⟨x.f.trans (Same.upd_none fn), x.b.trans (Same.upd_none bn), fun a o e => ?_, fun a o e => ?_, x.h.trans (Same.upd_none hq), fun a o e => ?_, fun a o e => ?_⟩
  · by_cases z : a = q
    · subst z; rw [upd_same] at e ⊢; exact e
    · rw [upd_ne z] at e ⊢; exact x.fb a o e
  · by_cases z : a = q
    · subst z; rw [upd_same] at e ⊢; exact e
    · rw [upd_ne z] at e ⊢; exact x.bh a o e
  · by_cases z : a = q
    · subst z; rw [upd_same] at e; cases e; exact .inr (.inr rfl)
    · rw [upd_ne z] at e; exact x.nf a o e
  · by_cases z : a = q
    · subst z; rw [upd_same] at e; cases e; exact .inr (.inr rfl)
    · rw [upd_ne z] at e; exact x.nb a o e
theorem de_tup {t : Bool} {es : List Expr} {rs : Res (List D)} {j : Nat} (h : DL_ X C E ρ t es rs) : DE X C E ρ (.Tuple es j pos) (kX t) (rs >>= mkT) :=
  PE_imp (pe_tup h) fun σ H Q ⟨F, B, R, p⟩ => ⟨F, B, R, Res.post_mono (Res.post_bind p) fun ds _ pd => fun F1 B1 H1 vs x rs => by
    unfold mkT at pd
    split at pd
    · rename_i hz
      refine ⟨by rw [rs.length]; exact hz, fun q hq => ?_⟩
      have y := x.newT (xs := vs) hq
      have bn : B1 q = none := by
        cases e : B1 q with
        | none => rfl
        | some o => have := x.bh _ _ e; rw [hq] at this; cases this
      cases t with
      | true => exact pd _ _ _ _ y (.tup (.inl (.inl upd_same)) (RpAll.mono (Same.upd_none (x.fb.free bn)) ds vs rs))
      | false => exact pd _ _ _ _ y (.tup (.inl (.inl upd_same)) (RpAll.mono (Same.upd_none bn) ds vs rs))
    · exact pd.elim⟩
end
end DL

/-! DL5: statements -/
namespace DL
open PySem PySem.Spec L2
open PyProof.Rows hiding St

/-- how a block ends: it goes on (the names s), returns, or leaves the loop around it (the names l) -/
inductive Fl (S L : Type) where
  | nx (s : S)
  | rt (d : D)
  | bk (l : L)

/-- what is so at a def's every point -/
structure Bs (C : Gd) (F B H : Hp) : Prop where
  fb : Same F B
  bh : Same B H
  h0 : Same C.H0 B
  fr : ∀ a o, F a = some o → C.F0 a = some o ∨ C.H0 a = none ∨ isTup o = true
theorem Rel.bs {K : PySem.W.Frag} {C : Gd} {ρ : Env} {F B H : Hp} {σ : L2.St} (R : Rel K C ρ F B σ H) : Bs C F B H := ⟨R.fb, R.bh, R.h0, R.fr⟩

section
variable (K : PySem.W.Frag) (mg : Str → Option Value) (C : Gd) (E : XK)
/-- what a block's end wants; F0, B0: the frozen parts at its start -/
def FlOk {S L : Type} (k : Kd) (po : S → Env) (pk : L → Env) (Z : Ends) (F0 B0 : Hp) : Fl S L → Prop
  | .nx s => ∀ F B H σ, Same F0 F → Same B0 B → Rel K C (po s) F B σ H → Z.nx σ H
  | .rt d => ∀ F B H v, Bs C F B H → RepX K C.H0 F B H k v d → Z.rt v H
  | .bk l => ∀ F B H σ, Same F0 F → Same B0 B → Rel K C (pk l) F B σ H → Z.bk σ H
/-- the reading of a block over data -/
def tB {S L : Type} (k : Kd) (ρ : Env) (po : S → Env) (pk : L → Env) (r : Res (Fl S L)) : TS := fun Z σ H =>
  ∃ F B, Rel K C ρ F B σ H ∧ r.post (FlOk K C k po pk Z F B) (EG mg C E)
end
def DB (X : Cx) (C : Gd) (E : XK) (k : Kd) (ρ : Env) (ss : List Stmt) {S L : Type} (po : S → Env) (pk : L → Env) (r : Res (Fl S L)) : Prop := PSs X ss (tB X.K X.mg C E k ρ po pk r)

theorem FlOk.mono {K : PySem.W.Frag} {C : Gd} {S L : Type} {k : Kd} {po : S → Env} {pk : L → Env} {Z : Ends} {F0 B0 F1 B1 : Hp} {fl : Fl S L} (f : Same F0 F1) (b : Same B0 B1) (h : FlOk K C k po pk Z F0 B0 fl) : FlOk K C k po pk Z F1 B1 fl := by
  cases fl with
  | nx s => exact fun F B H σ f2 b2 R => h F B H σ (f.trans f2) (b.trans b2) R
  | rt d => exact h
  | bk l => exact fun F B H σ f2 b2 R => h F B H σ (f.trans f2) (b.trans b2) R
theorem flMono {K : PySem.W.Frag} {C : Gd} {S L : Type} {k : Kd} {po : S → Env} {pk : L → Env} {Z : Ends} {F0 B0 F1 B1 : Hp} {X : Str → Int → Prop} {r : Res (Fl S L)} (f : Same F0 F1) (b : Same B0 B1) (h : r.post (FlOk K C k po pk Z F0 B0) X) : r.post (FlOk K C k po pk Z F1 B1) X :=
  Res.post_mono h fun _ _ q => q.mono f b

theorem PSs_imp {X : Cx} {ss : List Stmt} {t t' : TS} (h : PSs X ss t) (k : ∀ Z σ H, t' Z σ H → t Z σ H) : PSs X ss t' := ⟨fun pins s σ H D I q => h.run pins s σ H D I (k D σ H q)⟩
theorem PSs_ex {X : Cx} {ss : List Stmt} {ι : Type} {t : ι → TS} (h : ∀ i, PSs X ss (t i)) : PSs X ss (fun Z σ H => ∃ i, t i Z σ H) := ⟨fun pins s σ H D I ⟨i, q⟩ => (h i).run pins s σ H D I q⟩

/-! ### forgetting and freezing names -/
/-- each slot is as it was, or forgotten -/
inductive EnvLe : Env → Env → Prop
  | nil : EnvLe [] []
  | keep {c : Cell} {r q : Env} : EnvLe r q → EnvLe (c :: r) (c :: q)
  | drop {c : Cell} {r q : Env} : EnvLe r q → EnvLe (none :: r) (c :: q)
theorem EnvLe.refl : ∀ ρ : Env, EnvLe ρ ρ
  | [] => .nil
  | _ :: r => .keep (EnvLe.refl r)
theorem EnvLe.len {a b : Env} (h : EnvLe a b) : a.length = b.length := by
  induction h with
  | nil => rfl
  | keep _ ih => rw [List.length_cons, List.length_cons, ih]
  | drop _ ih => rw [List.length_cons, List.length_cons, ih]
theorem EnvLe.get {a b : Env} (h : EnvLe a b) : ∀ (i : Nat) (k : Kd) (d : D), a[i]? = some (some (k, d)) → b[i]? = some (some (k, d)) := by
  induction h with
  | nil => intro i k d e; exact e
  | keep _ ih =>
    intro i k d e
    cases i with
    | zero => exact e
    | succ i => exact ih i k d e
  | drop _ ih =>
    intro i k d e
    cases i with
    | zero => cases e
    | succ i => exact ih i k d e
theorem Rel.le {K : PySem.W.Frag} {C : Gd} {ρ ρ' : Env} {F B H : Hp} {σ : L2.St} (R : Rel K C ρ F B σ H) (h : EnvLe ρ' ρ) : Rel K C ρ' F B σ H :=
  ⟨R.fb, R.bh, R.h0, R.fr, R.len.trans h.len.symm, fun i k d e => R.cells i k d (h.get i k d e), fun i j ki kj di dj ne a b e f => R.dist i j ki kj di dj ne a b (h.get _ _ _ e) (h.get _ _ _ f)⟩
/-- what may be known less -/
def Wk (K : PySem.W.Frag) (C : Gd) (ρ ρ' : Env) : Prop := ∀ F B σ H, Rel K C ρ F B σ H → ∃ F' B', Same F F' ∧ Same B B' ∧ Rel K C ρ' F' B' σ H
theorem wk_refl {K : PySem.W.Frag} {C : Gd} {ρ : Env} : Wk K C ρ ρ := fun F B _ _ R => ⟨F, B, .refl _, .refl _, R⟩
theorem wk_trans {K : PySem.W.Frag} {C : Gd} {ρ ρ1 ρ2 : Env} (a : Wk K C ρ ρ1) (b : Wk K C ρ1 ρ2) : Wk K C ρ ρ2 := fun F B σ H R => by
  obtain ⟨F1, B1, f1, b1, R1⟩ := a F B σ H R
  obtain ⟨F2, B2, f2, b2, R2⟩ := b F1 B1 σ H R1
  exact ⟨F2, B2, f1.trans f2, b1.trans b2, R2⟩
theorem wk_le {K : PySem.W.Frag} {C : Gd} {ρ ρ' : Env} (h : EnvLe ρ' ρ) : Wk K C ρ ρ' := fun F B _ _ R => ⟨F, B, .refl _, .refl _, R.le h⟩
section
variable {K : PySem.W.Frag} {C : Gd} {ρ : Env} {F B H : Hp} {σ : L2.St}
/-- another cell at i, whose slot does not own what others own -/
theorem Rel.recell {i : Nat} {k' : Kd} {d' : D} {F' B' : Hp} {v : V} (R : Rel K C ρ F B σ H) (hi : i < ρ.length) (hv : σ[i]? = some (some v)) (fb : Same F' B') (bh : Same B' H) (h0 : Same C.H0 B') (fr : ∀ a o, F' a = some o → C.F0 a = some o ∨ C.H0 a = none ∨ isTup o = true)
    (hr : RepC K F' B' H k' v d') (ho : own k' = true → ∃ k d, own k = true ∧ ρ[i]? = some (some (k, d)))
    (oth : ∀ (j : Nat) k d v, j ≠ i → ρ[j]? = some (some (k, d)) → σ[j]? = some (some v) → RepC K F B H k v d → RepC K F' B' H k v d) : Rel K C (ρ.set i (some (k', d'))) F' B' σ H := by
  refine ⟨fb, bh, h0, fr, by rw [List.length_set]; exact R.len, fun j k d e => ?_, fun j l kj kl dj dl ne oj ol ej el => ?_⟩
  · by_cases z : i = j
    · subst z
      rw [List.getElem?_set_self hi] at e
      cases e
      exact ⟨v, hv, hr⟩
    · rw [List.getElem?_set_ne z] at e
      obtain ⟨u, h1, h2⟩ := R.cells j k d e
      exact ⟨u, h1, oth j k d u (Ne.symm z) e h1 h2⟩
  · have back : ∀ (m : Nat) (k : Kd) (d : D), own k = true → (ρ.set i (some (k', d')))[m]? = some (some (k, d)) → ∃ k2 d2, own k2 = true ∧ ρ[m]? = some (some (k2, d2)) := fun m k d o e => by
      by_cases z : i = m
      · subst z
        rw [List.getElem?_set_self hi] at e
        cases e
        exact ho o
      · rw [List.getElem?_set_ne z] at e
        exact ⟨k, d, o, e⟩
    obtain ⟨k1, d1, o1, e1⟩ := back j kj dj oj ej
    obtain ⟨k2, d2, o2, e2⟩ := back l kl dl ol el
    exact R.dist j l k1 k2 d1 d2 ne o1 o2 e1 e2
end
/-- an owned list is frozen: it may be kept elsewhere from now on -/
theorem wk_frz {K : PySem.W.Frag} {C : Gd} {ρ : Env} (i : Nat) {d : D} (hi : ρ[i]? = some (some (.ow, d)) := by rfl) : Wk K C ρ (ρ.set i (some (.sh, d))) := fun F B σ H R => by
  obtain ⟨v, hv, a, xs, ds, rfl, rfl, h1, h2, h3⟩ := R.cells i _ _ hi
  have lt : i < ρ.length := (List.getElem?_eq_some_iff.mp hi).1
  have fn : F a = none := R.fb.free h2
  have c0 : C.H0 a = none := R.h0.free h2
  have sF : Same F (upd F a (.lst xs)) := Same.upd_none fn
  have sB : Same B (upd B a (.lst xs)) := Same.upd_none h2
  refine ⟨upd F a (.lst xs), upd B a (.lst xs), sF, sB, R.recell lt hv (fun b o e => ?_) (fun b o e => ?_) (R.h0.trans sB) (fun b o e => ?_) (.lst (.inl upd_same) (RpAll.mono sF ds xs h3)) (fun o => by cases o) fun j k d' v nj ej hvj r => ?_⟩
  · by_cases z : b = a
    · subst z; rw [upd_same] at e ⊢; exact e
    · rw [upd_ne z] at e ⊢; exact R.fb b o e
  · by_cases z : b = a
    · subst z; rw [upd_same] at e; cases e; exact h1
    · rw [upd_ne z] at e; exact R.bh b o e
  · by_cases z : b = a
    · subst z; exact .inr (.inl c0)
    · rw [upd_ne z] at e; exact R.fr b o e
  · have ne : ∀ c : Addr, own k = true → v = .ref c → c ≠ a := fun c ok hc z => by
      subst z
      exact R.dist j i k .ow d' _ nj ok rfl ej hi (by rw [hvj, hv, hc])
    cases k with
    | sh => exact Rp.mono sF d' v r
    | bo => exact Rp.mono sB d' v r
    | vw => exact Rp.mono sB d' v r
    | kx => exact Dp.mono sB d' v r
    | ow =>
      obtain ⟨c, ys, es, rfl, rfl, g1, g2, g3⟩ := r
      exact ⟨c, ys, es, rfl, rfl, g1, by rw [upd_ne (ne c rfl rfl)]; exact g2, RpAll.mono sF es ys g3⟩
    | owb =>
      obtain ⟨c, ys, es, rfl, rfl, g1, g2, g3⟩ := r
      exact ⟨c, ys, es, rfl, rfl, g1, by rw [upd_ne (ne c rfl rfl)]; exact g2, RpAll.mono sB es ys g3⟩
    | vs =>
      obtain ⟨c, ys, es, rfl, rfl, g1, g3⟩ := r
      exact ⟨c, ys, es, rfl, rfl, Rd.mono sB g1, RpAll.mono sF es ys g3⟩
/-- .. one with borrowed items -/
theorem wk_frzB {K : PySem.W.Frag} {C : Gd} {ρ : Env} (i : Nat) {d : D} (hi : ρ[i]? = some (some (.owb, d)) := by rfl) : Wk K C ρ (ρ.set i (some (.bo, d))) := fun F B σ H R => by
  obtain ⟨v, hv, a, xs, ds, rfl, rfl, h1, h2, h3⟩ := R.cells i _ _ hi
  have lt : i < ρ.length := (List.getElem?_eq_some_iff.mp hi).1
  have sB : Same B (upd B a (.lst xs)) := Same.upd_none h2
  refine ⟨F, upd B a (.lst xs), .refl _, sB, R.recell lt hv (R.fb.trans sB) (fun b o e => ?_) (R.h0.trans sB) R.fr (.lst (.inl upd_same) (RpAll.mono sB ds xs h3)) (fun o => by cases o) fun j k d' v nj ej hvj r => ?_⟩
  · by_cases z : b = a
    · subst z; rw [upd_same] at e; cases e; exact h1
    · rw [upd_ne z] at e; exact R.bh b o e
  · have ne : ∀ c : Addr, own k = true → v = .ref c → c ≠ a := fun c ok hc z => by
      subst z
      exact R.dist j i k .owb d' _ nj ok rfl ej hi (by rw [hvj, hv, hc])
    cases k with
    | sh => exact r
    | bo => exact Rp.mono sB d' v r
    | vw => exact Rp.mono sB d' v r
    | kx => exact Dp.mono sB d' v r
    | ow =>
      obtain ⟨c, ys, es, rfl, rfl, g1, g2, g3⟩ := r
      exact ⟨c, ys, es, rfl, rfl, g1, by rw [upd_ne (ne c rfl rfl)]; exact g2, g3⟩
    | owb =>
      obtain ⟨c, ys, es, rfl, rfl, g1, g2, g3⟩ := r
      exact ⟨c, ys, es, rfl, rfl, g1, by rw [upd_ne (ne c rfl rfl)]; exact g2, RpAll.mono sB es ys g3⟩
    | vs =>
      obtain ⟨c, ys, es, rfl, rfl, g1, g3⟩ := r
      exact ⟨c, ys, es, rfl, rfl, Rd.mono sB g1, g3⟩
/-- .. its items are borrowed from now on -/
theorem wk_owb {K : PySem.W.Frag} {C : Gd} {ρ : Env} (i : Nat) {d : D} (hi : ρ[i]? = some (some (.ow, d)) := by rfl) : Wk K C ρ (ρ.set i (some (.owb, d))) := fun F B σ H R => by
  obtain ⟨v, hv, a, xs, ds, rfl, rfl, h1, h2, h3⟩ := R.cells i _ _ hi
  have lt : i < ρ.length := (List.getElem?_eq_some_iff.mp hi).1
  exact ⟨F, B, .refl _, .refl _, R.recell lt hv R.fb R.bh R.h0 R.fr ⟨a, xs, ds, rfl, rfl, h1, h2, RpAll.mono R.fb ds xs h3⟩ (fun _ => ⟨_, _, rfl, hi⟩) fun _ _ _ _ _ _ _ r => r⟩
theorem wk_bo {K : PySem.W.Frag} {C : Gd} {ρ : Env} (i : Nat) {d : D} (hi : ρ[i]? = some (some (.sh, d)) := by rfl) : Wk K C ρ (ρ.set i (some (.bo, d))) := fun F B σ H R => by
  obtain ⟨v, hv, r⟩ := R.cells i _ _ hi
  have lt : i < ρ.length := (List.getElem?_eq_some_iff.mp hi).1
  exact ⟨F, B, .refl _, .refl _, R.recell lt hv R.fb R.bh R.h0 R.fr (Rp.mono R.fb d v r) (fun o => by cases o) fun _ _ _ _ _ _ _ r => r⟩

section
variable {X : Cx} {C : Gd} {E : XK} {ρ : Env} {kr : Kd} {ss : List Stmt} {S L : Type} {po : S → Env} {pk : L → Env} {pos : Pos} {e : Expr} {k : Kd} {re : Res D}

theorem db_wk {ρ' : Env} {r : Res (Fl S L)} (w : Wk X.K C ρ ρ') (h : DB X C E kr ρ' ss po pk r) : DB X C E kr ρ ss po pk r := PSs_imp h fun Z σ H ⟨F, B, R, p⟩ => by
  obtain ⟨F', B', f, b, R'⟩ := w F B σ H R
  exact ⟨F', B', R', flMono f b p⟩
theorem db_nil {s : S} (h : EnvLe (po s) ρ) : DB X C E kr ρ [] po pk (.ok (.nx s)) := PSs_imp pss_nil fun Z σ H ⟨F, B, R, p⟩ => p F B H σ (.refl _) (.refl _) (R.le h)

/-! ### names stored -/
/-- kinds that a slot may take over from an expression -/
def stK : Kd → Bool
  | .sh => true
  | .bo => true
  | .ow => true
  | .owb => true
  | _ => false
theorem Rel.store {K : PySem.W.Frag} {F B H F1 B1 H1 : Hp} {σ : L2.St} {i : Nat} {v : V} {d : D} (R : Rel K C ρ F B σ H) (x : Ext F B H F1 B1 H1) (hs : stK k = true) (hi : i < ρ.length) (r : RepX K H F1 B1 H1 k v d) : Rel K C (ρ.set i (some (k, d))) F1 B1 (σ.set i (some v)) H1 := by
  have R1 := R.ext x
  have hiσ : i < σ.length := by rw [R.len]; exact hi
  refine ⟨R1.fb, R1.bh, R1.h0, R1.fr, by rw [List.length_set, List.length_set]; exact R.len, fun j k' d' e => ?_, fun j l kj kl dj dl ne oj ol ej el => ?_⟩
  · by_cases z : i = j
    · subst z
      rw [List.getElem?_set_self hi] at e
      cases e
      refine ⟨v, List.getElem?_set_self hiσ, ?_⟩
      cases k with
      | sh => exact r
      | bo => exact r
      | ow =>
        obtain ⟨a, xs, ds, rfl, rfl, h1, h2, h4, h3⟩ := r
        exact ⟨a, xs, ds, rfl, rfl, h1, h2, h3⟩
      | owb =>
        obtain ⟨a, xs, ds, rfl, rfl, h1, h2, h4, h3⟩ := r
        exact ⟨a, xs, ds, rfl, rfl, h1, h2, h3⟩
      | vw => cases hs
      | vs => cases hs
      | kx => cases hs
    · rw [List.getElem?_set_ne z] at e
      obtain ⟨u, h1, h2⟩ := R1.cells j k' d' e
      exact ⟨u, by rw [List.getElem?_set_ne z]; exact h1, h2⟩
  · -- the new owned list is none of the elder ones
    have fresh : ∀ (m : Nat) (km : Kd) (dm : D), i ≠ m → own k = true → own km = true → ρ[m]? = some (some (km, dm)) → (σ.set i (some v))[i]? ≠ (σ.set i (some v))[m]? := fun m km dm nm ok om em z => by
      rw [List.getElem?_set_self hiσ, List.getElem?_set_ne nm] at z
      obtain ⟨u, h1, h2⟩ := R.cells m km dm em
      rw [h1] at z
      cases z
      have pn : ∃ a, v = .ref a ∧ H a = none := by
        cases k with
        | ow =>
          obtain ⟨a, xs, ds, rfl, rfl, h1, h2, h4, h3⟩ := r
          exact ⟨a, rfl, h4⟩
        | owb =>
          obtain ⟨a, xs, ds, rfl, rfl, h1, h2, h4, h3⟩ := r
          exact ⟨a, rfl, h4⟩
        | _ => cases ok
      obtain ⟨a, rfl, ha⟩ := pn
      cases km with
      | ow =>
        obtain ⟨c, xs, ds, e, rfl, g1, g2, g3⟩ := h2
        cases e
        rw [ha] at g1
        cases g1
      | owb =>
        obtain ⟨c, xs, ds, e, rfl, g1, g2, g3⟩ := h2
        cases e
        rw [ha] at g1
        cases g1
      | _ => cases om
    by_cases z : i = j
    · subst z
      rw [List.getElem?_set_self hi] at ej
      cases ej
      rw [List.getElem?_set_ne ne] at el
      exact fresh l kl dl ne oj ol el
    · by_cases z2 : i = l
      · subst z2
        rw [List.getElem?_set_self hi] at el
        cases el
        rw [List.getElem?_set_ne z] at ej
        exact fun q => fresh j kj dj z ol oj ej q.symm
      · rw [List.getElem?_set_ne z] at ej
        rw [List.getElem?_set_ne z2] at el
        rw [List.getElem?_set_ne z, List.getElem?_set_ne z2]
        exact R.dist j l kj kl dj dl ne oj ol ej el
/-- name = e -/
theorem db_set {i : Nat} {x : Str} {pos' : Pos} {kr' : D → Res (Fl S L)} (nd : X.N.Nodup) (ha : DE X C E ρ e k re) (rest : ∀ d, DB X C E kr (ρ.set i (some (k, d))) ss po pk (kr' d)) (hi : i < ρ.length := by exact Nat.le_of_ble_eq_true rfl) (hs : stK k = true := by rfl)
    (hN : X.N[i]? = some x := by rfl) (hx : Loc X.env.scope x := by first | exact Or.inl rfl | exact Or.inr rfl) (hsw : swapsWith e (some (.Name x pos')) pos.line X.env = pure false := by rfl) (hf : X.fn x = true ∨ X.env.scope.names.lookup x = some .local := by first | exact .inl rfl | exact .inr rfl) :
    DB X C E kr ρ (.Assign [.Name x pos'] e pos :: ss) po pk (re >>= kr') :=
  PSs_imp (pss_cons (ps_set nd hN hx ha hsw hf) (PSs_ex rest)) fun Z σ H ⟨F, B, R, p⟩ => by
    refine ⟨F, B, R, Res.post_mono (Res.post_bind p) fun d _ pd => fun F1 B1 H1 v x r => ?_⟩
    exact ⟨d, F1, B1, R.store x hs hi r, flMono x.f x.b pd⟩
/-- an expression whose value is dropped -/
theorem db_expr {kr' : Res (Fl S L)} (ha : DE X C E ρ e k re) (rest : DB X C E kr ρ ss po pk kr') (hsw : swapsWith e none pos.line X.env = pure false := by rfl) : DB X C E kr ρ (.Expr e pos :: ss) po pk (re >>= fun _ => kr') :=
  PSs_imp (pss_cons (ps_expr ha hsw) rest) fun Z σ H ⟨F, B, R, p⟩ =>
    ⟨F, B, R, Res.post_mono (Res.post_bind p) fun d _ pd => fun F1 B1 H1 v x r => ⟨F1, B1, R.ext x, flMono x.f x.b pd⟩⟩
theorem db_ret (ha : DE X C E ρ e kr re) : DB X C E kr ρ (.Return (some e) pos :: ss) po pk (re >>= fun d => .ok (.rt d)) := by
  have h1 : PSs X (.Return (some e) pos :: ss) (tSeq (tRet (tD X.K X.mg C E ρ kr re)) tNever) := pss_cons (ps_ret ha) pss_never
  exact PSs_imp h1 fun Z σ H ⟨F, B, R, p⟩ => ⟨F, B, R, Res.post_mono (Res.post_bind p) fun d _ pd => fun F1 B1 H1 v x r => pd F1 B1 H1 v (R.ext x).bs (r.back (R.h0.trans R.bh))⟩
theorem db_retN : DB X C E .sh ρ (.Return none pos :: ss) po pk (.ok (.rt .none)) := by
  have h1 : PSs X (.Return none pos :: ss) (tSeq tRetN tNever) := pss_cons ps_retN pss_never
  exact PSs_imp h1 fun Z σ H ⟨F, B, R, p⟩ => p F B H .non R.bs .non
theorem db_pass {kr' : Res (Fl S L)} (rest : DB X C E kr ρ ss po pk kr') : DB X C E kr ρ (.Pass pos :: ss) po pk kr' := pss_cons ps_pass rest
theorem db_brk {l : L} (h : EnvLe (pk l) ρ) : DB X C E kr ρ (.Break pos :: ss) po pk (.ok (.bk l)) := by
  have h1 : PSs X (.Break pos :: ss) (tSeq tBreak tNever) := pss_cons ps_break pss_never
  exact PSs_imp h1 fun Z σ H ⟨F, B, R, p⟩ => p F B H σ (.refl _) (.refl _) (R.le h)

/-! ### if -/
/-- what follows a block -/
def seqK {S1 S L : Type} (f : S1 → Res (Fl S L)) : Fl S1 L → Res (Fl S L)
  | .nx s => f s
  | .rt d => .ok (.rt d)
  | .bk l => .ok (.bk l)
def Fl.seq {S1 S L : Type} (r : Res (Fl S1 L)) (f : S1 → Res (Fl S L)) : Res (Fl S L) := r >>= seqK f
@[simp] theorem Fl.seq_nx {S1 S L : Type} (s : S1) (f : S1 → Res (Fl S L)) : Fl.seq (.ok (.nx s)) f = f s := id rfl
@[simp] theorem Fl.seq_rt {S1 S L : Type} (d : D) (f : S1 → Res (Fl S L)) : Fl.seq (.ok (.rt d)) f = .ok (.rt d) := id rfl
@[simp] theorem Fl.seq_bk {S1 S L : Type} (l : L) (f : S1 → Res (Fl S L)) : Fl.seq (.ok (.bk l)) f = .ok (.bk l) := id rfl
@[simp] theorem Fl.seq_exc {S1 S L : Type} (c : Str) (n : Int) (f : S1 → Res (Fl S L)) : Fl.seq (.exc c n) f = .exc c n := id rfl
@[simp] theorem Fl.seq_stuck {S1 S L : Type} (f : S1 → Res (Fl S L)) : Fl.seq .stuck f = .stuck := id rfl
theorem db_if {c : Expr} {A B' : List Stmt} {rc : Res Bool} {S1 : Type} {po1 : S1 → Env} {ra rb : Res (Fl S1 L)} {f : S1 → Res (Fl S L)} (hc : DT X C E ρ c rc) (ha : DB X C E kr ρ A po1 pk ra) (hb : DB X C E kr ρ B' po1 pk rb)
    (rest : ∀ s, DB X C E kr (po1 s) ss po pk (f s)) : DB X C E kr ρ (.If c A B' pos :: ss) po pk (rc >>= fun t => Fl.seq (if t then ra else rb) f) :=
  PSs_imp (pss_cons (ps_if hc ha hb) (PSs_ex rest)) fun Z σ H ⟨F, B, R, p⟩ => by
    refine ⟨F, B, R, Res.post_mono (Res.post_bind p) fun t _ pt => fun F1 B1 H1 x => ?_⟩
    have go : ∀ r : Res (Fl S1 L), (Fl.seq r f).post (FlOk X.K C kr po pk Z F B) (EG X.mg C E) → tB X.K X.mg C E kr ρ po1 pk r { Z with nx := fun σ H => ∃ s, tB X.K X.mg C E kr (po1 s) po pk (f s) Z σ H } σ H1 := fun r pr => by
      refine ⟨F1, B1, R.ext x, Res.post_mono (Res.post_bind pr) fun fl _ pf => ?_⟩
      cases fl with
      | nx s => exact fun F2 B2 H2 σ2 f2 b2 R2 => ⟨s, F2, B2, R2, flMono (x.f.trans f2) (x.b.trans b2) pf⟩
      | rt d => exact pf
      | bk l => exact fun F2 B2 H2 σ2 f2 b2 R2 => pf F2 B2 H2 σ2 (x.f.trans f2) (x.b.trans b2) R2
    cases t with
    | true => exact iteT (go ra pt)
    | false => exact iteF (go rb pt)
/-- a branch that does not go on -/
theorem db_ifr {c : Expr} {A : List Stmt} {rc : Res Bool} {ra : Res (Fl Empty L)} {poE : Empty → Env} {kr' : Res (Fl S L)} (hc : DT X C E ρ c rc) (ha : DB X C E kr ρ A poE pk ra) (rest : DB X C E kr ρ ss po pk kr') :
    DB X C E kr ρ (.If c A [] pos :: ss) po pk (rc >>= fun t => if t then Fl.seq ra (fun s => nomatch s) else kr') :=
  PSs_imp (pss_cons (ps_if hc ha pss_nil) rest) fun Z σ H ⟨F, B, R, p⟩ => by
    refine ⟨F, B, R, Res.post_mono (Res.post_bind p) fun t _ pt => fun F1 B1 H1 x => ?_⟩
    cases t with
    | true =>
      refine iteT ⟨F1, B1, R.ext x, Res.post_mono (Res.post_bind pt) fun fl _ pf => ?_⟩
      cases fl with
      | nx s => exact nomatch s
      | rt d => exact pf
      | bk l => exact fun F2 B2 H2 σ2 f2 b2 R2 => pf F2 B2 H2 σ2 (x.f.trans f2) (x.b.trans b2) R2
    | false => exact iteF ⟨F1, B1, R.ext x, flMono x.f x.b pt⟩
end
end DL

/-! DL6: lists changed, targets, loops -/
namespace DL
open PySem PySem.Spec L2
open PyProof.Rows hiding St

/-! ### a list changed -/
section
variable {K : PySem.W.Frag} {C : Gd} {ρ : Env} {F B H : Hp} {σ : L2.St}
/-- the list that slot i owns, changed -/
theorem Rel.write {i : Nat} {k : Kd} {d : D} {a : Addr} {xs ys : List V} {ds : List D} (R : Rel K C ρ F B σ H) (ok : own k = true) (hi : ρ[i]? = some (some (k, d))) (hv : σ[i]? = some (some (.ref a))) (h1 : H a = some (.lst xs)) (h2 : B a = none)
    (h3 : RpAll K (sel (k == .ow) F B) ys ds) : Rel K C (ρ.set i (some (k, .list ds))) F B σ (upd H a (.lst ys)) := by
  have lt : i < ρ.length := (List.getElem?_eq_some_iff.mp hi).1
  have bh : Same B (upd H a (.lst ys)) := fun b o e => by
    rw [upd_ne (fun z => by subst z; rw [h2] at e; cases e)]
    exact R.bh b o e
  refine ⟨R.fb, bh, R.h0, R.fr, by rw [List.length_set]; exact R.len, fun j k' d' e => ?_, fun j l kj kl dj dl ne oj ol ej el => ?_⟩
  · by_cases z : i = j
    · subst z
      rw [List.getElem?_set_self lt] at e
      cases e
      refine ⟨_, hv, ?_⟩
      cases k with
      | ow => exact ⟨a, ys, ds, rfl, rfl, upd_same, h2, h3⟩
      | owb => exact ⟨a, ys, ds, rfl, rfl, upd_same, h2, h3⟩
      | _ => cases ok
    · rw [List.getElem?_set_ne z] at e
      obtain ⟨u, g1, g2⟩ := R.cells j k' d' e
      refine ⟨u, g1, ?_⟩
      have ne : ∀ c : Addr, own k' = true → u = .ref c → c ≠ a := fun c ok' hc q => by
        subst q
        exact R.dist i j k k' d d' z ok ok' hi e (by rw [hv, g1, hc])
      cases k' with
      | ow =>
        obtain ⟨c, zs, es, rfl, rfl, q1, q2, q3⟩ := g2
        exact ⟨c, zs, es, rfl, rfl, by rw [upd_ne (ne c rfl rfl)]; exact q1, q2, q3⟩
      | owb =>
        obtain ⟨c, zs, es, rfl, rfl, q1, q2, q3⟩ := g2
        exact ⟨c, zs, es, rfl, rfl, by rw [upd_ne (ne c rfl rfl)]; exact q1, q2, q3⟩
      | sh => exact g2
      | bo => exact g2
      | vw => exact g2
      | vs => exact g2
      | kx => exact g2
  · have back : ∀ (m : Nat) (km : Kd) (dm : D), own km = true → (ρ.set i (some (k, .list ds)))[m]? = some (some (km, dm)) → ∃ k2 d2, own k2 = true ∧ ρ[m]? = some (some (k2, d2)) := fun m km dm o e => by
      by_cases z : i = m
      · subst z
        rw [List.getElem?_set_self lt] at e
        cases e
        exact ⟨k, d, ok, hi⟩
      · rw [List.getElem?_set_ne z] at e
        exact ⟨km, dm, o, e⟩
    obtain ⟨k1, d1, o1, e1⟩ := back j kj dj oj ej
    obtain ⟨k2, d2, o2, e2⟩ := back l kl dl ol el
    exact R.dist j l k1 k2 d1 d2 ne o1 o2 e1 e2
end
def appD : D → D → Res D
  | .list ds, x => if ds.length < sizeLine then .ok (.list (ds ++ [x])) else .stuck
  | _, _ => .stuck
def setD : D → D → D → Res D
  | .list ds, .int i, x => match ixN ds.length i with
    | some j => .ok (.list (ds.set j x))
    | none => .stuck
  | _, _, _ => .stuck
def extD (t : Bool) (k : Kd) : D → D → Res D
  | .list ds, .list es => if itemsX t k es && decide (ds.length + es.length ≤ sizeLine) then .ok (.list (ds ++ es)) else .stuck
  | _, _ => .stuck
section
variable {X : Cx} {C : Gd} {E : XK} {ρ : Env} {kr : Kd} {ss : List Stmt} {S L : Type} {po : S → Env} {pk : L → Env} {pos : Pos} {e : Expr} {k ko : Kd} {re : Res D}
theorem own_inv {K : PySem.W.Frag} {F B H : Hp} {v : V} {d : D} {t : Bool} (r : RepC K F B H (oX t) v d) : ∃ a xs ds, v = .ref a ∧ d = .list ds ∧ H a = some (.lst xs) ∧ B a = none ∧ RpAll K (sel t F B) xs ds := by
  cases t <;> exact r
theorem own_oX (t : Bool) : own (oX t) = true := by cases t <;> rfl
theorem oX_ow (t : Bool) : (oX t == .ow) = t := by cases t <;> rfl
/-- x.append(e) -/
theorem db_app {t : Bool} {i : Nat} {x : Str} {d : D} {p1 p2 apos : Pos} {f : D → Res (Fl S L)} (ha : DE X C E ρ e (kX t) re) (rest : ∀ d', DB X C E kr (ρ.set i (some (oX t, d'))) ss po pk (f d')) (hi : ρ[i]? = some (some (oX t, d)) := by rfl) (hN : X.N[i]? = some x := by rfl)
    (hv : Vis X.env.scope x := by first | exact Or.inl rfl | exact Or.inr (Or.inl rfl) | exact Or.inr (Or.inr rfl))
    (hd : (x == ("__debug__" : Str)) = false := by decide) (hcd : (x == ("__classdict__" : Str)) = false := by decide)
    (hbase : attributeBase (.Name x p1) "append" X.env (eval (.Name x p1) X.env) = eval (.Name x p1) X.env := by rfl)
    (hfew : ((backTo p2 (starEach [e] X.env)).all (fun x => !x.1) && (backToKw p2 (keywordEach [] X.env)).all (fun x => x.1.isSome) && decide ([e].length + ([] : List Keyword).length + (if ([] : List Keyword).isEmpty then 0 else 1) < 30)) = true := by rfl)
    (hline : (apos.endLine == p2.line) = true := by rfl) (hs : starEach [e] X.env = (false, eval e X.env) :: starEach [] X.env := by rfl) (hplain : (backTo p2 (starEach [] X.env)).any (·.1) = false := by rfl)
    (hsw : swapsWith (.Call (.Attribute (.Name x p1) "append" apos) [e] [] p2) none pos.line X.env = pure false := by rfl) :
    DB X C E kr ρ (.Expr (.Call (.Attribute (.Name x p1) "append" apos) [e] [] p2) pos :: ss) po pk (re >>= fun y => appD d y >>= f) :=
  PSs_imp (pss_cons (ps_expr (pe_bm PySem.F.plainAttrs_list PySem.F.slot_list_append PySem.F.type_list_append mt_append (pe_var hN hv hd hcd) (pa_cons ha pa_nil hs) hbase hfew hline hs hplain) hsw) (PSs_ex rest)) fun Z σ H ⟨F, B, R, p⟩ => by
    obtain ⟨v, hv, r⟩ := R.cells i _ _ hi
    obtain ⟨a, xs, ds, rfl, rfl, h1, h2, h3⟩ := own_inv r
    refine ⟨.ref a, hv, .inl ⟨rfl, xs, SqL.of h1⟩, F, B, R, Res.post_mono (Res.post_bind p) fun y _ py => fun F1 B1 H1 w x r => ?_⟩
    simp only [appD] at py
    by_cases hz : ds.length < sizeLine
    · rw [if_pos hz] at py
      have g1 := x.h _ _ h1
      have g3 : RpAll X.K (sel t F1 B1) xs ds := RpAll.mono (sel_ext x) ds xs h3
      refine ⟨a, xs, w, rfl, rfl, g1, by rw [h3.length]; exact hz, .list (ds ++ [y]), F1, B1, ?_, flMono x.f x.b py⟩
      exact (R.ext x).write (own_oX t) hi hv g1 (x.bnone h1 h2) (by rw [oX_ow]; exact g3.append (.cons (RepX.kX r) .nil))
    · rw [if_neg hz] at py
      exact py.elim
/-- l + l' at l itself -/
def rExtQ : V → List V → Hp → VK → Prop := fun x vs H Q => ∃ l b xs zs, x = .ref l ∧ vs = [.ref b] ∧ H l = some (.lst xs) ∧ Rd H b (.lst zs) ∧ xs.length + zs.length ≤ sizeLine ∧ Q .non (upd H l (.lst (xs ++ zs)))
theorem mt_extQ : MtM X "list.extend" rExtQ := by
  intro pins s σ H x vs v us Q I rx rv h
  obtain ⟨l, b, xs, zs, rfl, rfl, hH, hB, hz, q⟩ := h
  cases rx
  obtain ⟨u, rfl, ru⟩ := rv.one
  cases ru
  obtain ⟨z, its, n, r, hl, e⟩ := I.lstM hH
  obtain ⟨z2, its2, n2, r2, hl2, e2⟩ := DL.Inv.rd I hB
  have hsz : its.toArray.size + its2.toArray.size ≤ sizeLine := by rw [List.size_toArray, List.size_toArray]; omega
  have hlong : ¬ (!its.toArray.isEmpty && Builtin.List.listTooLong (its.toArray.size + its2.toArray.size)) = true := by
    rw [notLongL hsz, Bool.and_false]
    exact Bool.false_ne_true
  refine call_meets F.slot_list_extend ⟨_, e, rfl⟩ F.entry_list_extend (F.args_list_extend_2 _ _)
    (AutoSeq1.list_extend_list_list_0 l its.toArray n b its2.toArray n2 hlong (by rw [List.size_toArray]; omega) (by omega)) ⟨e, e2, ?_⟩
  refine ⟨.non, _, I.lset (its' := its ++ its2) hH e (by simp) (r.append r2) ?_, rfl, q⟩
  rw [List.length_append]
  omega
theorem sel_tups {t : Bool} {F B H : Hp} (fb : Same F B) (bh : Same B H) : Same (sel t F B) (sel t (tupsOf H F) (tupsOf H B)) := sel_ext (Ext.tups fb bh)
theorem itemsX_ok {t : Bool} {K : PySem.W.Frag} {P F B H : Hp} {v : V} {ds : List D} (fb : Same F B) (bh : Same B H) (nx : noKx k = true) (r : RepX K P F B H k v (.list ds)) (c : itemsX t k ds = true) : ∃ a xs, v = .ref a ∧ Rd H a (.lst xs) ∧ RpAll K (sel t (tupsOf H F) (tupsOf H B)) xs ds := by
  cases t with
  | true => exact r.items fb bh nx c
  | false => exact r.itemsB fb bh nx c
/-- x.extend(e), e a list -/
theorem db_ext {t : Bool} {i : Nat} {x : Str} {d : D} {p1 p2 apos : Pos} {f : D → Res (Fl S L)} (ha : DE X C E ρ e k re) (rest : ∀ d', DB X C E kr (ρ.set i (some (oX t, d'))) ss po pk (f d')) (nx : noKx k = true := by rfl) (hi : ρ[i]? = some (some (oX t, d)) := by rfl) (hN : X.N[i]? = some x := by rfl)
    (hv : Vis X.env.scope x := by first | exact Or.inl rfl | exact Or.inr (Or.inl rfl) | exact Or.inr (Or.inr rfl))
    (hd : (x == ("__debug__" : Str)) = false := by decide) (hcd : (x == ("__classdict__" : Str)) = false := by decide)
    (hbase : attributeBase (.Name x p1) "extend" X.env (eval (.Name x p1) X.env) = eval (.Name x p1) X.env := by rfl)
    (hfew : ((backTo p2 (starEach [e] X.env)).all (fun x => !x.1) && (backToKw p2 (keywordEach [] X.env)).all (fun x => x.1.isSome) && decide ([e].length + ([] : List Keyword).length + (if ([] : List Keyword).isEmpty then 0 else 1) < 30)) = true := by rfl)
    (hline : (apos.endLine == p2.line) = true := by rfl) (hs : starEach [e] X.env = (false, eval e X.env) :: starEach [] X.env := by rfl) (hplain : (backTo p2 (starEach [] X.env)).any (·.1) = false := by rfl)
    (hsw : swapsWith (.Call (.Attribute (.Name x p1) "extend" apos) [e] [] p2) none pos.line X.env = pure false := by rfl) :
    DB X C E kr ρ (.Expr (.Call (.Attribute (.Name x p1) "extend" apos) [e] [] p2) pos :: ss) po pk (re >>= fun y => extD t k d y >>= f) :=
  PSs_imp (pss_cons (ps_expr (pe_bm PySem.F.plainAttrs_list PySem.F.slot_list_extend PySem.F.type_list_extend mt_extQ (pe_var hN hv hd hcd) (pa_cons ha pa_nil hs) hbase hfew hline hs hplain) hsw) (PSs_ex rest)) fun Z σ H ⟨F, B, R, p⟩ => by
    obtain ⟨v, hv, r⟩ := R.cells i _ _ hi
    obtain ⟨a, xs, ds, rfl, rfl, h1, h2, h3⟩ := own_inv r
    refine ⟨.ref a, hv, .inl ⟨rfl, xs, SqL.of h1⟩, F, B, R, Res.post_mono (Res.post_bind p) fun y _ py => fun F1 B1 H1 w x r => ?_⟩
    cases y with
    | list es =>
      simp only [extD] at py
      split at py
      · rename_i hc
        simp only [Bool.and_eq_true, decide_eq_true_eq] at hc
        have R1 := R.ext x
        obtain ⟨b, zs, rfl, q1, q2⟩ := itemsX_ok R1.fb R1.bh nx r hc.1
        have y2 := Ext.tups R1.fb R1.bh
        have g1 := x.h _ _ h1
        have g3 : RpAll X.K (sel t (tupsOf H1 F1) (tupsOf H1 B1)) xs ds := RpAll.mono ((sel_ext x).trans (sel_ext y2)) ds xs h3
        refine ⟨a, b, xs, zs, rfl, rfl, g1, q1, by rw [h3.length, q2.length]; exact hc.2, .list (ds ++ es), _, _, ?_, flMono (x.trans y2).f (x.trans y2).b py⟩
        exact (R1.ext y2).write (own_oX t) hi hv g1 (y2.bnone g1 (x.bnone h1 h2)) (by rw [oX_ow]; exact g3.append q2)
      · exact py.elim
    | _ => exact py.elim
/-- x[j] = e -/
theorem db_seti {t : Bool} {i : Nat} {x : Str} {d : D} {p1 p2 : Pos} {j : Expr} {kj : Kd} {rj : Res D} {f : D → Res (Fl S L)} (ha : DE X C E ρ e (kX t) re) (hj : DE X C E ρ j kj rj) (rest : ∀ d', DB X C E kr (ρ.set i (some (oX t, d'))) ss po pk (f d')) (hi : ρ[i]? = some (some (oX t, d)) := by rfl) (hN : X.N[i]? = some x := by rfl)
    (hv : Vis X.env.scope x := by first | exact Or.inl rfl | exact Or.inr (Or.inl rfl) | exact Or.inr (Or.inr rfl))
    (hd : (x == ("__debug__" : Str)) = false := by decide) (hcd : (x == ("__classdict__" : Str)) = false := by decide)
    (has : ∀ v, assign (.Subscript (.Name x p1) j p2) X.env v = (do
      let ov ← holding [v] (eval (.Name x p1) X.env)
      let iv ← holding [v, ov] (eval j X.env)
      standAt p2
      holding [v, ov, iv] (setItem ov iv v)
      release [v, ov, iv] []) := by intro _; rfl)
    (hsw : swapsWithSole [.Subscript (.Name x p1) j p2] e pos.line X.env = pure false := by rfl) (hw : swappedStores [.Subscript (.Name x p1) j p2] e X.env = pure none := by rfl)
    (h1 : (assignEach [.Subscript (.Name x p1) j p2] X.env).map (·.2) = [assign (.Subscript (.Name x p1) j p2) X.env] := by rfl) :
    DB X C E kr ρ (.Assign [.Subscript (.Name x p1) j p2] e pos :: ss) po pk (re >>= fun y => rj >>= fun n => setD d n y >>= f) :=
  PSs_imp (pss_cons (ps_asg ha (pg_sub (pe_var hN hv hd hcd) hj set_list has) hsw hw h1) (PSs_ex rest)) fun Z σ H ⟨F, B, R, p⟩ => by
    obtain ⟨v, hv, r⟩ := R.cells i _ _ hi
    obtain ⟨a, xs, ds, rfl, rfl, h1, h2, h3⟩ := own_inv r
    refine tD1 (Z := fun F B H => FlOk X.K C kr po pk Z F B) R p (fun x q => q.mono x.f x.b) fun y w F1 B1 H1 x R1 r py => ⟨.ref a, hv, ?_⟩
    refine tD1 (Z := fun F B H => FlOk X.K C kr po pk Z F B) R1 py (fun x q => q.mono x.f x.b) fun n u F2 B2 H2 x2 R2 rn pn => ?_
    cases n with
    | int m =>
      simp only [setD] at pn
      obtain rfl := rn.int R2.fb R2.bh
      split at pn
      · rename_i jj hjj
        have xx := x.trans x2
        have g1 := xx.h _ _ h1
        have g3 : RpAll X.K (sel t F2 B2) xs ds := RpAll.mono (sel_ext xx) ds xs h3
        refine ⟨a, xs, m, jj, rfl, rfl, g1, by rw [h3.length]; exact hjj, .list (ds.set jj y), F2, B2, ?_, pn⟩
        exact R2.write (own_oX t) hi hv g1 (xx.bnone h1 h2) (by rw [oX_ow]; exact g3.set jj (Rp.mono (sel_ext x2) y w (RepX.kX r)))
      · exact pn.elim
    | _ => exact pn.elim

/-! ### targets -/
/-- alike but at the places ts -/
def Alike (ts : List Nat) (σ σ' : L2.St) : Prop := σ'.length = σ.length ∧ ∀ j, j ∉ ts → σ'[j]? = σ[j]?
theorem Alike.refl {ts : List Nat} {σ : L2.St} : Alike ts σ σ := ⟨rfl, fun _ _ => rfl⟩
theorem Alike.set {i : Nat} {σ : L2.St} {c : Option V} : Alike [i] σ (σ.set i c) := ⟨List.length_set .., fun j h => List.getElem?_set_ne (fun z => h (by simp [z]))⟩
theorem Alike.trans {a b : List Nat} {σ σ1 σ2 : L2.St} (h : Alike a σ σ1) (k : Alike b σ1 σ2) : Alike (a ++ b) σ σ2 :=
  ⟨k.1.trans h.1, fun j n => (k.2 j fun z => n (List.mem_append_right _ z)).trans (h.2 j fun z => n (List.mem_append_left _ z))⟩
/-- a target takes data of kind kX b: f takes it apart, po is the state behind -/
def DG (X : Cx) (C : Gd) (b : Bool) (ρ : Env) (tg : Expr) (ts : List Nat) {T : Type} (f : D → Res T) (po : T → Env) : Prop :=
  PG X tg (fun v σ H Q => ∃ F B d, Rel X.K C ρ F B σ H ∧ Rp X.K (sel b F B) v d ∧ (f d).post (fun t => ∀ σ', Alike ts σ σ' → Rel X.K C (po t) F B σ' H → Q σ' H) (fun _ _ => False))
def DGs (X : Cx) (C : Gd) (b : Bool) (ρ : Env) (tgs : List Expr) (ts : List Nat) {T : Type} (f : List D → Res T) (po : T → Env) : Prop :=
  PGs X tgs (fun vs σ H Q => ∃ F B ds, Rel X.K C ρ F B σ H ∧ RpAll X.K (sel b F B) vs ds ∧ (f ds).post (fun t => ∀ σ', Alike ts σ σ' → Rel X.K C (po t) F B σ' H → Q σ' H) (fun _ _ => False))
theorem PG_imp {tg : Expr} {t t' : TG} (h : PG X tg t) (k : ∀ v σ H Q, t' v σ H Q → t v σ H Q) : PG X tg t' := ⟨fun pins s σ H v u Q I r q => h.run pins s σ H v u Q I r (k v σ H Q q)⟩
theorem PGs_imp {tg : List Expr} {t t' : TGs} (h : PGs X tg t) (k : ∀ v σ H Q, t' v σ H Q → t v σ H Q) : PGs X tg t' := ⟨fun pins s σ H v u Q I r q => h.run pins s σ H v u Q I r (k v σ H Q q)⟩
theorem PGs_ex {tgs : List Expr} {ι : Type} {t : ι → TGs} (h : ∀ i, PGs X tgs (t i)) : PGs X tgs (fun v σ H Q => ∃ i, t i v σ H Q) := ⟨fun pins s σ H v u Q I r ⟨i, q⟩ => (h i).run pins s σ H v u Q I r q⟩
theorem Rel.storeS {K : PySem.W.Frag} {F B H : Hp} {σ : L2.St} {i : Nat} {b : Bool} {v : V} {d : D} (R : Rel K C ρ F B σ H) (hi : i < ρ.length) (r : Rp K (sel b F B) v d) : Rel K C (ρ.set i (some (kX b, d))) F B (σ.set i (some v)) H := by
  cases b with
  | true => exact R.store (k := .sh) R.ext0 rfl hi r
  | false => exact R.store (k := .bo) R.ext0 rfl hi r
theorem dg_name {b : Bool} {i : Nat} {x : Str} (nd : X.N.Nodup) (hi : i < ρ.length := by exact Nat.le_of_ble_eq_true rfl) (hN : X.N[i]? = some x := by rfl) (hx : Loc X.env.scope x := by first | exact Or.inl rfl | exact Or.inr rfl) (hf : X.fn x = true ∨ X.env.scope.names.lookup x = some .local := by first | exact .inl rfl | exact .inr rfl) :
    DG X C b ρ (.Name x pos) [i] (fun d => .ok d) (fun d => ρ.set i (some (kX b, d))) := PG_imp (pg_name nd hN hx hf) fun v σ H Q ⟨F, B, d, R, r, p⟩ => p _ .set (R.storeS hi r)
def unN : List D → Res Unit
  | [] => .ok ()
  | _ => .stuck
def un1 {T : Type} (f : D → Res T) : List D → Res T
  | [d] => f d
  | _ => .stuck
def unC {T U : Type} (f : D → Res T) (g : List D → Res U) : List D → Res (T × U)
  | d :: r => f d >>= fun t => g r >>= fun u => .ok (t, u)
  | _ => .stuck
theorem dgs_nil {b : Bool} : DGs X C b ρ [] [] unN (fun _ => ρ) := PGs_imp pgs_nil fun vs σ H Q ⟨F, B, ds, R, r, p⟩ => by
  cases r with
  | nil => exact ⟨rfl, p σ .refl R⟩
  | cons _ _ => exact p.elim
theorem dgs_one {b : Bool} {tg : Expr} {ts : List Nat} {T : Type} {f : D → Res T} {po1 : T → Env} (h : DG X C b ρ tg ts f po1) (hs : (assignEach [tg] X.env).map (·.2) = assign tg X.env :: (assignEach [] X.env).map (·.2) := by rfl) :
    DGs X C b ρ [tg] ts (un1 f) po1 := PGs_imp (pgs_cons h pgs_nil hs) fun vs σ H Q ⟨F, B, ds, R, r, p⟩ => by
  cases r with
  | nil => exact p.elim
  | cons r1 r2 =>
    cases r2 with
    | nil => exact ⟨_, [], rfl, F, B, _, R, r1, Res.post_mono p fun t _ q σ' al R' => ⟨rfl, q σ' al R'⟩⟩
    | cons _ _ => exact p.elim
theorem dgs_cons {b : Bool} {tg tg2 : Expr} {tgs : List Expr} {ts us : List Nat} {T U : Type} {f : D → Res T} {po1 : T → Env} {g : List D → Res U} {po2 : T → U → Env} (h : DG X C b ρ tg ts f po1) (hs : ∀ t, DGs X C b (po1 t) (tg2 :: tgs) us g (po2 t))
    (he : (assignEach (tg :: tg2 :: tgs) X.env).map (·.2) = assign tg X.env :: (assignEach (tg2 :: tgs) X.env).map (·.2) := by rfl) :
    DGs X C b ρ (tg :: tg2 :: tgs) (ts ++ us) (unC f g) (fun p => po2 p.1 p.2) := PGs_imp (pgs_cons h (PGs_ex hs) he) fun vs σ H Q ⟨F, B, ds, R, r, p⟩ => by
  cases r with
  | nil => exact p.elim
  | cons r1 r2 =>
    refine ⟨_, _, rfl, F, B, _, R, r1, Res.post_mono (Res.post_bind p) fun t _ q σ' al R' => ⟨t, F, B, _, R', r2, Res.post_mono (Res.post_bind q) fun u _ q2 σ2 al2 R2 => q2 σ2 (al.trans al2) R2⟩⟩
/-- a tuple taken apart -/
def unT {T : Type} (n : Nat) (f : List D → Res T) : D → Res T
  | .tuple ds => if ds.length = n then f ds else .stuck
  | _ => .stuck
theorem dg_tup {b : Bool} {tgs : List Expr} {j n : Nat} {ts : List Nat} {T : Type} {f : List D → Res T} {po1 : T → Env} (hc : X.calm = true) (h : DGs X C b ρ tgs ts f po1) (hn : (assignEach tgs X.env).length = n := by rfl) (hst : (assignEach tgs X.env).findIdx? (·.1) = none := by rfl) :
    DG X C b ρ (.Tuple tgs j pos) ts (unT n f) po1 := PG_imp (pg_tup hc h hn hst) fun v σ H Q ⟨F, B, d, R, r, p⟩ => by
  unfold unT at p
  split at p
  · rename_i ds
    split at p
    · rename_i hl
      obtain ⟨a, xs, rfl, h1, h2⟩ := Rp.tuple r
      have up : Same (sel b F B) H := by
        cases b with
        | true => exact R.fb.trans R.bh
        | false => exact R.bh
      exact ⟨a, xs, rfl, SqT.mono up h1, h2.length.trans hl, F, B, ds, R, h2, p⟩
    · exact p.elim
  · exact p.elim
/-- target = e (a tuple taken apart) -/
theorem db_unp {b : Bool} {tg : Expr} {ts : List Nat} {T : Type} {f : D → Res T} {po1 : T → Env} {g : T → Res (Fl S L)} (ha : DE X C E ρ e (kX b) re) (hg : DG X C b ρ tg ts f po1) (fx : ∀ d c n, f d ≠ .exc c n) (rest : ∀ t, DB X C E kr (po1 t) ss po pk (g t))
    (hs : swapsWithSole [tg] e pos.line X.env = pure false := by rfl) (hw : swappedStores [tg] e X.env = pure none := by rfl)
    (h1 : (assignEach [tg] X.env).map (·.2) = [assign tg X.env] := by rfl) : DB X C E kr ρ (.Assign [tg] e pos :: ss) po pk (re >>= fun d => f d >>= g) :=
  PSs_imp (pss_cons (ps_asg ha hg hs hw h1) (PSs_ex rest)) fun Z σ H ⟨F, B, R, p⟩ => by
    refine tD1 (Z := fun F B H => FlOk X.K C kr po pk Z F B) R p (fun x q => q.mono x.f x.b) fun d v F1 B1 H1 x R1 r pd => ⟨F1, B1, d, R1, RepX.kX r, ?_⟩
    cases q : f d with
    | ok t =>
      rw [q] at pd
      exact fun σ' _ R' => ⟨t, F1, B1, R', pd⟩
    | exc c n => exact absurd q (fx d c n)
    | stuck => rw [q] at pd; exact pd.elim
/-- a, b = e1, e2, both local names -/
theorem db_par {i j : Nat} {x y : Str} {a b : Expr} {px py pt : Pos} {kt k2 : Nat} {pt2 : Pos} {ka kb : Kd} {ra rb : Res D} {f : D → D → Res (Fl S L)} (hc : X.calm = true) (nd : X.N.Nodup) (ha : DE X C E ρ a ka ra) (hb : DE X C E ρ b kb rb)
    (rest : ∀ d1 d2, DB X C E kr ((ρ.set i (some (ka, d1))).set j (some (kb, d2))) ss po pk (f d1 d2)) (hij : i ≠ j := by decide) (hi : i < ρ.length := by exact Nat.le_of_ble_eq_true rfl) (hj : j < ρ.length := by exact Nat.le_of_ble_eq_true rfl) (sa : stK ka = true := by rfl) (sb : stK kb = true := by rfl)
    (hNi : X.N[i]? = some x := by rfl) (hNj : X.N[j]? = some y := by rfl) (hx : X.env.scope.names.lookup x = some .local := by rfl) (hy : X.env.scope.names.lookup y = some .local := by rfl)
    (hw : swappedStores [.Tuple [.Name x px, .Name y py] kt pt] (.Tuple [a, b] k2 pt2) X.env = pure (some [x, y]) := by rfl)
    (hs : swapsWithSole [.Tuple [.Name x px, .Name y py] kt pt] (.Tuple [a, b] k2 pt2) pos.line X.env = pure false := by rfl)
    (hsa : starEach [a, b] X.env = (false, eval a X.env) :: starEach [b] X.env := by rfl) (hsb : starEach [b] X.env = (false, eval b X.env) :: starEach [] X.env := by rfl) :
    DB X C E kr ρ (.Assign [.Tuple [.Name x px, .Name y py] kt pt] (.Tuple [a, b] k2 pt2) pos :: ss) po pk (ra >>= fun d1 => rb >>= fun d2 => f d1 d2) :=
  PSs_imp (pss_cons (ps_par hc nd hNi hNj hij hx hy (pa_cons ha (pa_cons hb pa_nil hsb) hsa) hw hs) (PSs_ex fun d1 => PSs_ex (rest d1))) fun Z σ H ⟨F, B, R, p⟩ => by
    refine tD1 (Z := fun F B H => FlOk X.K C kr po pk Z F B) R p (fun x q => q.mono x.f x.b) fun d1 v F1 B1 H1 x1 R1 r1 p1 => ?_
    refine tD1 (Z := fun F B H => FlOk X.K C kr po pk Z F B) R1 p1 (fun x q => q.mono x.f x.b) fun d2 w F2 B2 H2 x2 R2 r2 p2 => ⟨v, w, rfl, d1, d2, F2, B2, ?_, p2⟩
    -- the first value is stored ahead of the second one's making
    have q1 : Rel X.K C (ρ.set i (some (ka, d1))) F1 B1 (σ.set i (some v)) H1 := R.store x1 sa hi r1
    exact q1.store x2 sb (by rw [List.length_set]; exact hj) r2
end
end DL

/-! DL7: what is walked; for, while; comprehensions -/
namespace DL
open PySem PySem.Spec L2
open PyProof.Rows hiding St

/-! ### what is walked -/
/-- the iterator J yields the data l, whatever is added to the heap -/
structure Src (K : PySem.W.Frag) (b : Bool) (F B : Hp) (J : It) (l : List D) : Prop where
  len : l.length ≤ sizeLine
  stop : ∀ (i : Nat) (F' B' H : Hp), Same F F' → Same B B' → Same F' B' → Same B' H → l.length ≤ i → J.stop i H
  go : ∀ (i : Nat) (F' B' H : Hp) (d : D), Same F F' → Same B B' → Same F' B' → Same B' H → l[i]? = some d → J.go i H ∧ ∀ x H', J.yld i H x H' → ∃ F2 B2, Ext F' B' H F2 B2 H' ∧ Rp K (sel b F2 B2) x d
def tI (K : PySem.W.Frag) (mg : Str → Option Value) (C : Gd) (E : XK) (ρ : Env) (vw b : Bool) (r : Res (List D)) : TI := fun σ H R =>
  ∃ F B, Rel K C ρ F B σ H ∧ r.post (fun l => ∀ F' B' H' J, Ext F B H F' B' H' → Src K b F' (if vw then H' else B') J l → R J H') (EG mg C E)
def DI (X : Cx) (C : Gd) (E : XK) (ρ : Env) (tg iter : Expr) (vw b : Bool) (r : Res (List D)) : Prop := PI X tg iter (tI X.K X.mg C E ρ vw b r)
theorem PI_imp {X : Cx} {tg iter : Expr} {t t' : TI} (h : PI X tg iter t) (k : ∀ σ H R, t' σ H R → t σ H R) : PI X tg iter t' := ⟨fun pins s σ H R I q => h.run pins s σ H R I (k σ H R q)⟩
/-- the kinds that may be walked: in a statement, in a comprehension; b: whether the items are frozen -/
def wkK (vw : Bool) (b : Bool) : Kd → Bool
  | .sh => true
  | .bo => !b
  | .vw => vw && !b
  | .ow => vw
  | .owb => vw && !b
  | .vs => vw
  | .kx => false
section
variable {K : PySem.W.Frag} {P F B H : Hp} {k : Kd} {v : V} {vw b : Bool}
/-- a list that may be walked -/
theorem RepX.walk (fb : Same F B) (bh : Same B H) (w : wkK vw b k = true) {ds : List D} (r : RepX K P F B H k v (.list ds)) : ∃ a xs, v = .ref a ∧ Rd (if vw then H else B) a (.lst xs) ∧ RpAll K (sel b F (if vw then H else B)) xs ds := by
  have fh := fb.trans bh
  have up : ∀ {xs : List V}, RpAll K F xs ds → RpAll K (sel b F (if vw then H else B)) xs ds := fun h => by
    cases b with
    | true => exact h
    | false =>
      cases vw with
      | true => exact RpAll.mono fh ds _ h
      | false => exact RpAll.mono fb ds _ h
  cases k with
  | sh =>
    obtain ⟨a, xs, rfl, h1, h2⟩ := Rp.list r
    refine ⟨a, xs, rfl, ?_, up h2⟩
    cases vw with
    | true => exact Rd.mono fh h1
    | false => exact Rd.mono fb h1
  | bo =>
    cases b with
    | true => cases w
    | false =>
      obtain ⟨a, xs, rfl, h1, h2⟩ := Rp.list r
      cases vw with
      | true => exact ⟨a, xs, rfl, Rd.mono bh h1, RpAll.mono bh ds xs h2⟩
      | false => exact ⟨a, xs, rfl, h1, h2⟩
  | vw =>
    cases vw with
    | false => cases w
    | true =>
      cases b with
      | true => cases w
      | false =>
        obtain ⟨a, xs, rfl, h1, h2⟩ := Rp.list r
        exact ⟨a, xs, rfl, h1, h2⟩
  | ow =>
    cases vw with
    | false => cases w
    | true =>
      obtain ⟨a, xs, ds', rfl, e, h1, h2, h4, h3⟩ := r
      cases e
      exact ⟨a, xs, rfl, .inl h1, up h3⟩
  | owb =>
    cases vw with
    | false => cases w
    | true =>
      cases b with
      | true => cases w
      | false =>
        obtain ⟨a, xs, ds', rfl, e, h1, h2, h4, h3⟩ := r
        cases e
        exact ⟨a, xs, rfl, .inl h1, RpAll.mono bh ds xs h3⟩
  | vs =>
    cases vw with
    | false => cases w
    | true =>
      obtain ⟨a, xs, ds', rfl, e, h1, h3⟩ := r
      cases e
      exact ⟨a, xs, rfl, h1, up h3⟩
  | kx => cases w
theorem RepX.walkT (fb : Same F B) (bh : Same B H) (w : wkK vw b k = true) {ds : List D} (r : RepX K P F B H k v (.tuple ds)) : ∃ a xs, v = .ref a ∧ SqT K (if vw then H else B) a xs ∧ RpAll K (sel b F (if vw then H else B)) xs ds := by
  have fh := fb.trans bh
  have up : ∀ {xs : List V}, RpAll K F xs ds → RpAll K (sel b F (if vw then H else B)) xs ds := fun h => by
    cases b with
    | true => exact h
    | false =>
      cases vw with
      | true => exact RpAll.mono fh ds _ h
      | false => exact RpAll.mono fb ds _ h
  cases k with
  | sh =>
    obtain ⟨a, xs, rfl, h1, h2⟩ := Rp.tuple r
    refine ⟨a, xs, rfl, ?_, up h2⟩
    cases vw with
    | true => exact SqT.mono fh h1
    | false => exact SqT.mono fb h1
  | bo =>
    cases b with
    | true => cases w
    | false =>
      obtain ⟨a, xs, rfl, h1, h2⟩ := Rp.tuple r
      cases vw with
      | true => exact ⟨a, xs, rfl, SqT.mono bh h1, RpAll.mono bh ds xs h2⟩
      | false => exact ⟨a, xs, rfl, h1, h2⟩
  | vw =>
    cases vw with
    | false => cases w
    | true =>
      cases b with
      | true => cases w
      | false =>
        obtain ⟨a, xs, rfl, h1, h2⟩ := Rp.tuple r
        exact ⟨a, xs, rfl, h1, h2⟩
  | ow => obtain ⟨a, xs, ds', rfl, e, _⟩ := r; cases e
  | owb => obtain ⟨a, xs, ds', rfl, e, _⟩ := r; cases e
  | vs => obtain ⟨a, xs, ds', rfl, e, _⟩ := r; cases e
  | kx => cases w
theorem Src.list {a : Addr} {xs : List V} {ds : List D} {G : Hp} (h1 : Rd G a (.lst xs)) (h2 : RpAll K (sel b F G) xs ds) (hz : ds.length ≤ sizeLine) : Src K b F G (Itl K a) ds where
  len := hz
  stop := fun i F' B' H f b' fb bh hi => ⟨xs, .inl (Rd.mono (b'.trans bh) h1), by rw [h2.length]; exact hi⟩
  go := fun i F' B' H d f b' fb bh hd => by
    have hq : SqL K H a xs := .inl (Rd.mono (b'.trans bh) h1)
    obtain ⟨u, hu, ru⟩ := h2.get hd
    refine ⟨⟨xs, u, hq, hu⟩, fun x H' ⟨e, y⟩ => ?_⟩
    subst e
    have e2 := y xs hq
    rw [hu] at e2
    cases e2
    refine ⟨F', B', .refl fb bh, ?_⟩
    cases b with
    | true => exact Rp.mono f d _ ru
    | false => exact Rp.mono b' d _ ru
theorem Src.tup {a : Addr} {xs : List V} {ds : List D} {G : Hp} (h1 : SqT K G a xs) (h2 : RpAll K (sel b F G) xs ds) (hz : ds.length ≤ sizeLine) : Src K b F G (Itt K a) ds where
  len := hz
  stop := fun i F' B' H f b' fb bh hi => ⟨xs, SqT.mono (b'.trans bh) h1, by rw [h2.length]; exact hi⟩
  go := fun i F' B' H d f b' fb bh hd => by
    have hq : SqT K H a xs := SqT.mono (b'.trans bh) h1
    obtain ⟨u, hu, ru⟩ := h2.get hd
    refine ⟨⟨xs, u, hq, hu⟩, fun x H' ⟨e, y⟩ => ?_⟩
    subst e
    have e2 := y xs hq
    rw [hu] at e2
    cases e2
    refine ⟨F', B', .refl fb bh, ?_⟩
    cases b with
    | true => exact Rp.mono f d _ ru
    | false => exact Rp.mono b' d _ ru
theorem Src.range {lo : Int} {n : Nat} {G : Hp} (hz : n ≤ sizeLine) : Src K b F G (Itr lo n) ((List.range n).map fun i => PyData.int (lo + (i : Nat))) where
  len := by rw [List.length_map, List.length_range]; exact hz
  stop := fun i F' B' H f b' fb bh hi => by rw [List.length_map, List.length_range] at hi; exact hi
  go := fun i F' B' H d f b' fb bh hd => by
    rw [List.getElem?_map] at hd
    obtain ⟨j, hj, rfl⟩ := Option.map_eq_some_iff.mp hd
    obtain ⟨hl, e⟩ := List.getElem?_eq_some_iff.mp hj
    rw [List.length_range] at hl
    rw [List.getElem_range] at e
    subst e
    refine ⟨hl, fun x H' ⟨e, y⟩ => ?_⟩
    subst e y
    exact ⟨F', B', .refl fb bh, .int _⟩
/-- the pairs of an index and an item -/
def enumD (ds : List D) : List D := ds.zipIdx.map fun p => .tuple [.int (p.2 : Nat), p.1]
theorem Src.enum {a : Addr} {xs : List V} {ds : List D} {G : Hp} (h1 : Rd G a (.lst xs)) (h2 : RpAll K (sel b F G) xs ds) (hz : ds.length ≤ sizeLine) : Src K b F G (Ite K a) (enumD ds) where
  len := by unfold enumD; rw [List.length_map, List.length_zipIdx]; exact hz
  stop := fun i F' B' H f b' fb bh hi => by
    unfold enumD at hi
    rw [List.length_map, List.length_zipIdx] at hi
    exact ⟨xs, .inl (Rd.mono (b'.trans bh) h1), by rw [h2.length]; exact hi⟩
  go := fun i F' B' H d f b' fb bh hd => by
    have hq : SqL K H a xs := .inl (Rd.mono (b'.trans bh) h1)
    unfold enumD at hd
    rw [List.getElem?_map, List.getElem?_zipIdx] at hd
    obtain ⟨p, hp, rfl⟩ := Option.map_eq_some_iff.mp hd
    obtain ⟨d, hd', rfl⟩ := Option.map_eq_some_iff.mp hp
    obtain ⟨u, hu, ru⟩ := h2.get hd'
    refine ⟨⟨xs, u, hq, hu⟩, fun x H' ⟨T, y, e1, e2, e3, e4⟩ => ?_⟩
    subst e1 e3
    have e5 := e4 xs hq
    rw [hu] at e5
    cases e5
    have x' : Ext F' B' H F' B' H := .refl fb bh
    have y2 := x'.newT (xs := [V.int (i : Nat), u]) e2
    have ru' : Rp K (sel b F' B') u d := by
      cases b with
      | true => exact Rp.mono f d _ ru
      | false => exact Rp.mono b' d _ ru
    refine ⟨_, _, y2, .tup (xs := [V.int (i : Nat), u]) ?_ (.cons ?_ (.cons (Rp.mono (sel_ext y2) d _ ru') .nil))⟩
    · cases b <;> exact .inl (.inl upd_same)
    · show Rp K _ (V.int (i : Nat)) (.int ((0 + i : Nat)))
      rw [Nat.zero_add]
      exact .int _
/-- pairs of items -/
def zipD (ds es : List D) : List D := (ds.zip es).map fun p => .tuple [p.1, p.2]
theorem Src.zip {a c : Addr} {xs ys : List V} {ds es : List D} {G : Hp} (h1 : Rd G a (.lst xs)) (h2 : RpAll K (sel b F G) xs ds) (h3 : Rd G c (.lst ys)) (h4 : RpAll K (sel b F G) ys es) (hz : ds.length ≤ sizeLine) : Src K b F G (Itz K a c) (zipD ds es) where
  len := by unfold zipD; rw [List.length_map, List.length_zip]; exact Nat.le_trans (Nat.min_le_left _ _) hz
  stop := fun i F' B' H f b' fb bh hi => by
    unfold zipD at hi
    rw [List.length_map, List.length_zip] at hi
    refine ⟨xs, ys, .inl (Rd.mono (b'.trans bh) h1), .inl (Rd.mono (b'.trans bh) h3), ?_⟩
    rw [h2.length, h4.length]
    omega
  go := fun i F' B' H d f b' fb bh hd => by
    have hq : SqL K H a xs := .inl (Rd.mono (b'.trans bh) h1)
    have hq2 : SqL K H c ys := .inl (Rd.mono (b'.trans bh) h3)
    unfold zipD at hd
    rw [List.getElem?_map] at hd
    obtain ⟨p, hp, rfl⟩ := Option.map_eq_some_iff.mp hd
    obtain ⟨d, e⟩ := p
    rw [List.getElem?_zip_eq_some] at hp
    obtain ⟨hd, he⟩ := hp
    obtain ⟨u, hu, ru⟩ := h2.get hd
    obtain ⟨w, hw, rw'⟩ := h4.get he
    refine ⟨⟨xs, ys, u, w, hq, hq2, hu, hw⟩, fun x H' ⟨T, y, z, e1, e2, e3, e4, e5⟩ => ?_⟩
    subst e1 e3
    have e6 := e4 xs hq
    have e7 := e5 ys hq2
    rw [hu] at e6
    rw [hw] at e7
    cases e6
    cases e7
    have x' : Ext F' B' H F' B' H := .refl fb bh
    have y2 := x'.newT (xs := [u, w]) e2
    have up : ∀ {q : V} {d : D}, Rp K (sel b F G) q d → Rp K (sel b F' B') q d := fun {q d} r => by
      cases b with
      | true => exact Rp.mono f d _ r
      | false => exact Rp.mono b' d _ r
    refine ⟨_, _, y2, .tup (xs := [u, w]) ?_ (.cons (Rp.mono (sel_ext y2) d _ (up ru)) (.cons (Rp.mono (sel_ext y2) e _ (up rw')) .nil))⟩
    cases b <;> exact .inl (.inl upd_same)
end
/-- a list's items, to be walked -/
def seqL : D → Res (List D)
  | .list ds => if ds.length ≤ sizeLine then .ok ds else .stuck
  | _ => .stuck
def seqT : D → Res (List D)
  | .tuple ds => if ds.length ≤ sizeLine then .ok ds else .stuck
  | _ => .stuck
def rngL (lo hi : D) : Res (List D) := match lo, hi with
  | .int a, .int b => if -(2 ^ 62) ≤ a ∧ a < 2 ^ 62 ∧ -(2 ^ 62) ≤ b ∧ b < 2 ^ 62 ∧ (b - a).toNat ≤ sizeLine then .ok ((List.range (b - a).toNat).map fun i => PyData.int (a + (i : Nat))) else .stuck
  | _, _ => .stuck
section
variable {X : Cx} {C : Gd} {E : XK} {ρ : Env} {k k2 : Kd} {e e2 tg : Expr} {re re2 : Res D} {vw b : Bool} {pos p : Pos}
theorem di_list (ha : DE X C E ρ e k re) (w : wkK vw b k = true := by rfl) : DI X C E ρ tg e vw b (re >>= seqL) :=
  PI_imp (pi_list ha) fun σ H R ⟨F, B, R0, q⟩ => tD1 (Z := fun F B H l => ∀ F' B' H' J, Ext F B H F' B' H' → Src X.K b F' (if vw then H' else B') J l → R J H') R0 q (fun x z F' B' H' J y s => z F' B' H' J (x.trans y) s) fun d v F1 B1 H1 x R1 r pd => by
    cases d with
    | list ds =>
      simp only [seqL] at pd
      split at pd
      · rename_i hz
        obtain ⟨a, xs, rfl, h1, h2⟩ := r.walk R1.fb R1.bh w
        have hq : SqL X.K H1 a xs := by
          cases vw with
          | true => exact .inl h1
          | false => exact .inl (Rd.mono R1.bh h1)
        exact ⟨a, rfl, ⟨xs, hq⟩, pd _ _ _ _ R1.ext0 (.list h1 h2 hz)⟩
      · exact pd.elim
    | _ => exact pd.elim
theorem di_tup (ha : DE X C E ρ e k re) (w : wkK vw b k = true := by rfl) : DI X C E ρ tg e vw b (re >>= seqT) :=
  PI_imp (pi_tup ha) fun σ H R ⟨F, B, R0, q⟩ => tD1 (Z := fun F B H l => ∀ F' B' H' J, Ext F B H F' B' H' → Src X.K b F' (if vw then H' else B') J l → R J H') R0 q (fun x z F' B' H' J y s => z F' B' H' J (x.trans y) s) fun d v F1 B1 H1 x R1 r pd => by
    cases d with
    | tuple ds =>
      simp only [seqT] at pd
      split at pd
      · rename_i hz
        obtain ⟨a, xs, rfl, h1, h2⟩ := r.walkT R1.fb R1.bh w
        have hq : SqT X.K H1 a xs := by
          cases vw with
          | true => exact h1
          | false => exact SqT.mono R1.bh h1
        exact ⟨a, rfl, ⟨xs, hq⟩, pd _ _ _ _ R1.ext0 (.tup h1 h2 hz)⟩
      · exact pd.elim
    | _ => exact pd.elim
theorem di_rng1 (hm : X.mg "range" = none) (ha : DE X C E ρ e k re) (hg : Gl X "range" := by rfl) (hs : starEach [e] X.env = [(false, eval e X.env)] := by rfl) : DI X C E ρ tg (.Call (.Name "range" p) [e] [] pos) vw b (re >>= fun d => rngL (.int 0) d) :=
  PI_imp (pi_range1 hg hm (pa_cons ha pa_nil hs) hs) fun σ H R ⟨F, B, R0, q⟩ => tD1 (Z := fun F B H l => ∀ F' B' H' J, Ext F B H F' B' H' → Src X.K b F' (if vw then H' else B') J l → R J H') R0 q (fun x z F' B' H' J y s => z F' B' H' J (x.trans y) s) fun d v F1 B1 H1 x R1 r pd => by
    cases d with
    | int n =>
      simp only [rngL] at pd
      split at pd
      · rename_i h
        obtain rfl := r.int R1.fb R1.bh
        obtain ⟨h1, h2, h3, h4, h5⟩ := h
        have e0 : (n - 0).toNat = n.toNat := by rw [Int.sub_zero]
        rw [e0] at pd h5
        exact ⟨n, rfl, h3, h4, pd _ _ _ _ R1.ext0 (.range h5)⟩
      · exact pd.elim
    | _ => exact pd.elim
theorem di_rng2 (hm : X.mg "range" = none) (ha : DE X C E ρ e k re) (hb : DE X C E ρ e2 k2 re2) (hg : Gl X "range" := by rfl) (hs : starEach [e, e2] X.env = [(false, eval e X.env), (false, eval e2 X.env)] := by rfl) (hs2 : starEach [e2] X.env = [(false, eval e2 X.env)] := by rfl) :
    DI X C E ρ tg (.Call (.Name "range" p) [e, e2] [] pos) vw b (re >>= fun d => re2 >>= fun d2 => rngL d d2) :=
  PI_imp (pi_range2 hg hm (pa_cons ha (pa_cons hb pa_nil hs2) (by rw [hs, hs2])) hs hs2) fun σ H R ⟨F, B, R0, q⟩ => tD1 (Z := fun F B H l => ∀ F' B' H' J, Ext F B H F' B' H' → Src X.K b F' (if vw then H' else B') J l → R J H') R0 q (fun x z F' B' H' J y s => z F' B' H' J (x.trans y) s) fun d v F1 B1 H1 x R1 r pd =>
    tD1 (Z := fun F B H l => ∀ F' B' H' J, Ext F B H F' B' H' → Src X.K b F' (if vw then H' else B') J l → R J H') R1 pd (fun x z F' B' H' J y s => z F' B' H' J (x.trans y) s) fun d2 v2 F2 B2 H2 x2 R2 r2 pd => by
      cases d with
      | int m =>
        cases d2 with
        | int n =>
          simp only [rngL] at pd
          split at pd
          · rename_i h
            obtain rfl := (r.ext x2).int R2.fb R2.bh
            obtain rfl := r2.int R2.fb R2.bh
            obtain ⟨h1, h2, h3, h4, h5⟩ := h
            exact ⟨m, n, rfl, ⟨h1, h2, h3, h4⟩, pd _ _ _ _ R2.ext0 (.range h5)⟩
          · exact pd.elim
        | _ => exact pd.elim
      | _ => exact pd.elim
theorem di_enum {elts : List Expr} {kk : Nat} {tpos : Pos} (hm : X.mg "enumerate" = none) (ha : DE X C E ρ e k re) (w : wkK vw b k = true := by rfl) (hg : Gl X "enumerate" := by rfl) (hs : starEach [e] X.env = [(false, eval e X.env)] := by rfl) :
    DI X C E ρ (.Tuple elts kk tpos) (.Call (.Name "enumerate" p) [e] [] pos) vw b (re >>= fun d => seqL d >>= fun l => .ok (enumD l)) :=
  PI_imp (pi_enum hg hm (pa_cons ha pa_nil hs) hs) fun σ H R ⟨F, B, R0, q⟩ => tD1 (Z := fun F B H l => ∀ F' B' H' J, Ext F B H F' B' H' → Src X.K b F' (if vw then H' else B') J l → R J H') R0 q (fun x z F' B' H' J y s => z F' B' H' J (x.trans y) s) fun d v F1 B1 H1 x R1 r pd => by
    cases d with
    | list ds =>
      simp only [seqL] at pd
      split at pd
      · rename_i hz
        obtain ⟨a, xs, rfl, h1, h2⟩ := r.walk R1.fb R1.bh w
        have hq : SqL X.K H1 a xs := by
          cases vw with
          | true => exact .inl h1
          | false => exact .inl (Rd.mono R1.bh h1)
        exact ⟨a, xs, rfl, hq, pd _ _ _ _ R1.ext0 (.enum h1 h2 hz)⟩
      · exact pd.elim
    | _ => exact pd.elim
theorem di_zip {elts : List Expr} {kk : Nat} {tpos : Pos} (hm : X.mg "zip" = none) (ha : DE X C E ρ e k re) (hb : DE X C E ρ e2 k2 re2) (w : wkK vw b k = true := by rfl) (w2 : wkK vw b k2 = true := by rfl) (hg : Gl X "zip" := by rfl)
    (hs : starEach [e, e2] X.env = (false, eval e X.env) :: starEach [e2] X.env := by rfl) (hs2 : starEach [e2] X.env = (false, eval e2 X.env) :: starEach [] X.env := by rfl) (hpl : (backTo pos (starEach [e2] X.env)).any (·.1) = false := by rfl) :
    DI X C E ρ (.Tuple elts kk tpos) (.Call (.Name "zip" p) [e, e2] [] pos) vw b (re >>= fun d => re2 >>= fun d2 => seqL d >>= fun l => seqL d2 >>= fun l2 => .ok (zipD l l2)) :=
  PI_imp (pi_zip hg hm (pa_cons ha (pa_cons hb pa_nil hs2) hs) hs hpl) fun σ H R ⟨F, B, R0, q⟩ => tD1 (Z := fun F B H l => ∀ F' B' H' J, Ext F B H F' B' H' → Src X.K b F' (if vw then H' else B') J l → R J H') R0 q (fun x z F' B' H' J y s => z F' B' H' J (x.trans y) s) fun d v F1 B1 H1 x R1 r pd =>
    tD1 (Z := fun F B H l => ∀ F' B' H' J, Ext F B H F' B' H' → Src X.K b F' (if vw then H' else B') J l → R J H') R1 pd (fun x z F' B' H' J y s => z F' B' H' J (x.trans y) s) fun d2 v2 F2 B2 H2 x2 R2 r2 pd => by
      cases d with
      | list ds =>
        cases d2 with
        | list es =>
          simp only [seqL] at pd
          split at pd
          · rename_i hz
            simp only [Res.bind_ok] at pd
            split at pd
            · obtain ⟨a, xs, rfl, h1, h2⟩ := (r.ext x2).walk R2.fb R2.bh w
              obtain ⟨c, ys, rfl, h3, h4⟩ := r2.walk R2.fb R2.bh w2
              have hq : SqL X.K H2 a xs := by
                cases vw with
                | true => exact .inl h1
                | false => exact .inl (Rd.mono R2.bh h1)
              have hq2 : SqL X.K H2 c ys := by
                cases vw with
                | true => exact .inl h3
                | false => exact .inl (Rd.mono R2.bh h3)
              exact ⟨a, c, xs, ys, rfl, hq, hq2, pd _ _ _ _ R2.ext0 (.zip h1 h2 h3 h4 hz)⟩
            · exact pd.elim
          · exact pd.elim
        | _ =>
          simp only [seqL] at pd
          split at pd <;> exact pd.elim
      | _ => exact pd.elim
end

/-! ### for, while -/
def forK {S L : Type} (k : S → Res (Fl S L)) : Fl S S → Res (Fl S L)
  | .nx s => k s
  | .rt d => .ok (.rt d)
  | .bk s => .ok (.nx s)
def forD {S L : Type} (f : D → S → Res (Fl S S)) : List D → S → Res (Fl S L)
  | [], s => .ok (.nx s)
  | d :: ds, s => f d s >>= forK (forD f ds)
def whileD {S L : Type} (c : S → Res Bool) (f : S → Res (Fl S S)) : Nat → S → Res (Fl S L)
  | 0, _ => .stuck
  | n + 1, s => c s >>= fun t => if t then f s >>= forK (whileD c f n) else .ok (.nx s)
section
variable {X : Cx} {C : Gd} {E : XK} {ρ : Env} {kr : Kd} {ss : List Stmt} {S L : Type} {po : S → Env} {pk : L → Env} {pos : Pos}
theorem PG_ex {tg : Expr} {ι : Type} {t : ι → TG} (h : ∀ i, PG X tg (t i)) : PG X tg (fun v σ H Q => ∃ i, t i v σ H Q) := ⟨fun pins s σ H v u Q I r ⟨i, q⟩ => (h i).run pins s σ H v u Q I r q⟩
theorem db_for {tg iter : Expr} {body : List Stmt} {b : Bool} {ts : List Nat} {S1 T : Type} {le : S1 → Env} {pt : S1 → T → Env} {rl : Res (List D)} {fT : D → Res T} {rb : T → S1 → Res (Fl S1 S1)} {f : S1 → Res (Fl S L)} (s0 : S1)
    (hp : PassesOwn (model X.prog X.w) X.A X.env X.xe) (hc : X.calm = true) (hi : DI X C E ρ tg iter false b rl) (hE : EnvLe (le s0) ρ) (hg : ∀ s, DG X C b (le s) tg ts fT (pt s)) (fx : ∀ d c n, fT d ≠ .exc c n)
    (hb : ∀ s t, DB X C E kr (pt s t) body le le (rb t s)) (rest : ∀ s, DB X C E kr (le s) ss po pk (f s))
    (hs : ∀ x, foldedSetIterable iter X.env x = pure x := by intro _; rfl) :
    DB X C E kr ρ (.For tg iter body [] pos :: ss) po pk (rl >>= fun l => Fl.seq (forD (fun d s => fT d >>= fun t => rb t s) l s0) f) :=
  PSs_imp (pss_cons (ps_for hp hc hi (PG_ex hg) (PSs_ex fun s => PSs_ex (hb s)) hs) (PSs_ex rest)) fun Z σ H ⟨F, B, R, p⟩ => by
    refine ⟨F, B, R, Res.post_mono (Res.post_bind p) fun l _ pl => fun F1 B1 H1 J x src => ?_⟩
    have src : Src X.K b F1 B1 J l := src
    refine ⟨fun i m σ H => m = l.length - i ∧ i ≤ l.length ∧ ∃ s F2 B2, Same F1 F2 ∧ Same B1 B2 ∧ Rel X.K C (le s) F2 B2 σ H ∧ (Fl.seq (forD (fun d s => fT d >>= fun t => rb t s) (l.drop i) s) f).post (FlOk X.K C kr po pk Z F2 B2) (EG X.mg C E),
      ⟨l.length, by simp, Nat.zero_le _, s0, F1, B1, .refl _, .refl _, (R.ext x).le hE, flMono x.f x.b pl⟩, ?_⟩
    rintro i m σ2 H2 ⟨rfl, hi, s, F2, B2, f2, b2, R2, p2⟩
    by_cases hlt : i < l.length
    · have hd : l[i]? = some l[i] := List.getElem?_eq_getElem hlt
      rw [List.drop_eq_getElem_cons hlt] at p2
      obtain ⟨g1, g2⟩ := src.go i F2 B2 H2 l[i] f2 b2 R2.fb R2.bh hd
      refine .inr ⟨g1, fun σ' H' => ∃ s' F3 B3, Same F1 F3 ∧ Same B1 B3 ∧ Rel X.K C (le s') F3 B3 σ' H' ∧ (Fl.seq (forD (fun d s => fT d >>= fun t => rb t s) (l.drop (i + 1)) s') f).post (FlOk X.K C kr po pk Z F3 B3) (EG X.mg C E),
        fun σ' H' hN => ⟨l.length - (i + 1), by omega, rfl, hlt, hN⟩, fun v H3 hy => ?_⟩
      obtain ⟨F3, B3, x3, r3⟩ := g2 v H3 hy
      have R3 := R2.ext x3
      refine ⟨s, F3, B3, l[i], R3, r3, ?_⟩
      simp only [forD, Fl.seq, Res.bind_assoc] at p2
      cases q : fT l[i] with
      | ok t =>
        rw [q] at p2
        refine fun σ' al R' => ⟨s, t, F3, B3, R', ?_⟩
        refine Res.post_mono (Res.post_bind p2) fun fl _ pf => ?_
        cases fl with
        | nx s' => exact fun F4 B4 H4 σ4 f4 b4 R4 => ⟨s', F4, B4, (f2.trans x3.f).trans f4, (b2.trans x3.b).trans b4, R4, flMono (x3.f.trans f4) (x3.b.trans b4) pf⟩
        | rt d => exact pf
        | bk s' => exact fun F4 B4 H4 σ4 f4 b4 R4 => ⟨s', F4, B4, R4, flMono (x3.f.trans f4) (x3.b.trans b4) pf⟩
      | exc c n => exact absurd q (fx _ c n)
      | stuck => rw [q] at p2; exact p2.elim
    · have e : i = l.length := by omega
      subst e
      rw [List.drop_length] at p2
      exact .inl ⟨src.stop _ F2 B2 H2 f2 b2 R2.fb R2.bh (Nat.le_refl _), s, F2, B2, R2, p2⟩
theorem db_while {c : Expr} {body : List Stmt} {S1 : Type} {le : S1 → Env} {rc : S1 → Res Bool} {rb : S1 → Res (Fl S1 S1)} {f : S1 → Res (Fl S L)} (n : Nat) (s0 : S1)
    (hp : PassesOwn (model X.prog X.w) X.A X.env X.xe) (hE : EnvLe (le s0) ρ) (hc : ∀ s, DT X C E (le s) c (rc s)) (hb : ∀ s, DB X C E kr (le s) body le le (rb s)) (rest : ∀ s, DB X C E kr (le s) ss po pk (f s)) :
    DB X C E kr ρ (.While c body [] pos :: ss) po pk (Fl.seq (whileD rc rb n s0) f) := by
  have PT_ex : PT X c (fun σ H Q => ∃ s, tT X.K X.mg C E (le s) (rc s) σ H Q) := ⟨fun pins st σ H Q I ⟨s, q⟩ => (hc s).run pins st σ H Q I q⟩
  refine PSs_imp (pss_cons (ps_while hp PT_ex (PSs_ex hb)) (PSs_ex rest)) fun Z σ H ⟨F, B, R, p⟩ => ?_
  refine ⟨fun m σ H => ∃ s F2 B2, Same F F2 ∧ Same B B2 ∧ Rel X.K C (le s) F2 B2 σ H ∧ (Fl.seq (whileD rc rb m s) f).post (FlOk X.K C kr po pk Z F2 B2) (EG X.mg C E), ⟨n, s0, F, B, .refl _, .refl _, R.le hE, p⟩, ?_⟩
  rintro m σ2 H2 ⟨s, F2, B2, f2, b2, R2, p2⟩
  cases m with
  | zero => exact p2.elim
  | succ m =>
    simp only [whileD, Fl.seq, Res.bind_assoc] at p2
    refine ⟨s, F2, B2, R2, Res.post_mono (Res.post_bind p2) fun t _ pt => fun F3 B3 H3 x3 => ?_⟩
    cases t with
    | false => exact iteF ⟨s, F3, B3, R2.ext x3, flMono x3.f x3.b pt⟩
    | true =>
      refine iteT ⟨fun σ' H' => ∃ s' F4 B4, Same F F4 ∧ Same B B4 ∧ Rel X.K C (le s') F4 B4 σ' H' ∧ (Fl.seq (whileD rc rb m s') f).post (FlOk X.K C kr po pk Z F4 B4) (EG X.mg C E), fun σ' H' hN => ⟨m, Nat.lt_succ_self _, hN⟩, s, F3, B3, R2.ext x3, ?_⟩
      simp only [if_true, Res.bind_assoc] at pt
      refine Res.post_mono (Res.post_bind pt) fun fl _ pf => ?_
      cases fl with
      | nx s' => exact fun F4 B4 H4 σ4 f4 b4 R4 => ⟨s', F4, B4, (f2.trans x3.f).trans f4, (b2.trans x3.b).trans b4, R4, flMono (x3.f.trans f4) (x3.b.trans b4) pf⟩
      | rt d => exact pf
      | bk s' => exact fun F4 B4 H4 σ4 f4 b4 R4 => ⟨s', F4, B4, R4, flMono (x3.f.trans f4) (x3.b.trans b4) pf⟩
end
end DL

/-! DL8: comprehensions; defs and their calls -/
namespace DL
open PySem PySem.Spec L2
open PyProof.Rows hiding St

/-! ### the state within a comprehension -/
def cvC : Cell → Cell
  | some (.ow, d) => some (.vs, d)
  | some (.owb, d) => some (.bo, d)
  | c => c
def wipeE (ρ : Env) : List Nat → Env
  | [] => ρ
  | v :: vs => (wipeE ρ vs).set v none
def cvE (ρ : Env) (vs : List Nat) : Env := wipeE (ρ.map cvC) vs
theorem wipeE_length (ρ : Env) : ∀ vs : List Nat, (wipeE ρ vs).length = ρ.length
  | [] => rfl
  | v :: vs => by unfold wipeE; rw [List.length_set, wipeE_length ρ vs]
theorem wipeE_some {ρ : Env} {i : Nat} {x : Kd × D} : ∀ {vs : List Nat}, (wipeE ρ vs)[i]? = some (some x) → ρ[i]? = some (some x) ∧ i ∉ vs
  | [], h => ⟨h, by simp⟩
  | v :: vs, h => by
    unfold wipeE at h
    by_cases hi : v = i
    · subst hi
      by_cases hv : v < (wipeE ρ vs).length
      · rw [List.getElem?_set_self hv] at h; cases h
      · rw [List.getElem?_eq_none (by simpa using hv)] at h; cases h
    · rw [List.getElem?_set_ne hi] at h
      obtain ⟨h1, h2⟩ := wipeE_some h
      exact ⟨h1, by simp only [List.mem_cons, not_or]; exact ⟨fun e => hi e.symm, h2⟩⟩
theorem wipe_get {σ : L2.St} {i : Nat} : ∀ {vs : List Nat}, i ∉ vs → (wipe σ vs)[i]? = σ[i]?
  | [], _ => rfl
  | v :: vs, h => by
    simp only [List.mem_cons, not_or] at h
    unfold wipe
    rw [List.getElem?_set_ne (fun z => h.1 z.symm), wipe_get h.2]
theorem wipe_none {σ : L2.St} {i : Nat} : ∀ {vs : List Nat}, i ∈ vs → i < σ.length → (wipe σ vs)[i]? = some none
  | [], h, _ => by cases h
  | v :: vs, h, hl => by
    unfold wipe
    by_cases z : v = i
    · subst z
      exact List.getElem?_set_self (by rw [wipe_length]; exact hl)
    · rw [List.getElem?_set_ne z]
      exact wipe_none ((List.mem_cons.mp h).resolve_left fun q => z q.symm) hl
theorem wipe_alike {ts vs : List Nat} {σ σ' : L2.St} (a : Alike ts σ σ') (h : ∀ i ∈ ts, i ∈ vs) : wipe σ' vs = wipe σ vs := by
  apply List.ext_getElem?
  intro i
  by_cases hi : i ∈ vs
  · by_cases hl : i < σ.length
    · rw [wipe_none hi hl, wipe_none hi (by rw [a.1]; exact hl)]
    · rw [List.getElem?_eq_none (by rw [wipe_length, a.1]; omega), List.getElem?_eq_none (by rw [wipe_length]; omega)]
  · rw [wipe_get hi, wipe_get hi]
    exact a.2 i fun z => hi (h i z)
/-- a state of one's own slots wiped -/
theorem wipe_wipe {σ : L2.St} {vs : List Nat} : wipe (wipe σ vs) vs = wipe σ vs := by
  apply List.ext_getElem?
  intro i
  by_cases hi : i ∈ vs
  · by_cases hl : i < σ.length
    · rw [wipe_none hi (by rw [wipe_length]; exact hl), wipe_none hi hl]
    · rw [List.getElem?_eq_none (by rw [wipe_length, wipe_length]; omega), List.getElem?_eq_none (by rw [wipe_length]; omega)]
  · rw [wipe_get hi]
section
variable {K : PySem.W.Frag} {C : Gd} {ρ : Env} {F B H : Hp} {σ : L2.St}
/-- into a comprehension: all that stands is frozen meanwhile -/
theorem Rel.comp {vs : List Nat} (R : Rel K C ρ F B σ H) {G : Hp} (g : Same H G) : Rel K C (cvE ρ vs) F H (wipe σ vs) G := by
  refine ⟨R.fb.trans R.bh, g, R.h0.trans R.bh, R.fr, by unfold cvE; rw [wipeE_length, List.length_map, wipe_length]; exact R.len, fun i k d e => ?_, fun i j ki kj di dj ne oi oj ei ej => ?_⟩
  · obtain ⟨e1, hi⟩ := wipeE_some e
    rw [List.getElem?_map] at e1
    obtain ⟨c, hc, ec⟩ := Option.map_eq_some_iff.mp e1
    cases c with
    | none => cases ec
    | some p =>
      obtain ⟨k0, d0⟩ := p
      obtain ⟨v, h1, h2⟩ := R.cells i k0 d0 hc
      refine ⟨v, by rw [wipe_get hi]; exact h1, ?_⟩
      cases k0 with
      | ow =>
        cases ec
        obtain ⟨a, xs, ds, rfl, rfl, g1, g2, g3⟩ := h2
        exact ⟨a, xs, ds, rfl, rfl, .inl g1, g3⟩
      | owb =>
        cases ec
        obtain ⟨a, xs, ds, rfl, rfl, g1, g2, g3⟩ := h2
        exact .lst (.inl g1) (RpAll.mono R.bh ds xs g3)
      | sh => cases ec; exact h2
      | bo => cases ec; exact Rp.mono R.bh _ v h2
      | vw => cases ec; exact Rp.mono R.bh _ v h2
      | kx => cases ec; exact Dp.mono R.bh _ v h2
      | vs =>
        cases ec
        obtain ⟨a, xs, ds, rfl, rfl, g1, g3⟩ := h2
        exact ⟨a, xs, ds, rfl, rfl, Rd.mono R.bh g1, g3⟩
  · obtain ⟨e1, _⟩ := wipeE_some ei
    rw [List.getElem?_map] at e1
    obtain ⟨c, hc, ec⟩ := Option.map_eq_some_iff.mp e1
    cases c with
    | none => cases ec
    | some p =>
      obtain ⟨k0, d0⟩ := p
      cases k0 <;> cases ec <;> cases oi
/-- a list that nobody knows of is changed -/
theorem Rel.other {a : Addr} {o : HO} (R : Rel K C ρ F B σ H) (hb : B a = none) (no : ∀ (i : Nat) k d, ρ[i]? = some (some (k, d)) → own k = false) : Rel K C ρ F B σ (upd H a o) := by
  refine ⟨R.fb, fun b u e => ?_, R.h0, R.fr, R.len, fun i k d e => ?_, R.dist⟩
  · rw [upd_ne (fun z => by subst z; rw [hb] at e; cases e)]
    exact R.bh b u e
  · obtain ⟨v, h1, h2⟩ := R.cells i k d e
    have n := no i k d e
    cases k with
    | ow => cases n
    | owb => cases n
    | _ => exact ⟨v, h1, h2⟩
theorem cvE_own {vs : List Nat} (i : Nat) (k : Kd) (d : D) (e : (cvE ρ vs)[i]? = some (some (k, d))) : own k = false := by
  obtain ⟨e1, _⟩ := wipeE_some e
  rw [List.getElem?_map] at e1
  obtain ⟨c, hc, ec⟩ := Option.map_eq_some_iff.mp e1
  cases c with
  | none => cases ec
  | some p =>
    obtain ⟨k0, d0⟩ := p
    cases k0 <;> cases ec <;> rfl
/-- the slots that are not known are wiped -/
theorem Rel.wipe {vs : List Nat} (R : Rel K C ρ F B σ H) (h : ∀ (i : Nat) k d, i ∈ vs → ρ[i]? ≠ some (some (k, d))) : Rel K C ρ F B (L2.wipe σ vs) H := by
  have ni : ∀ (i : Nat) k d, ρ[i]? = some (some (k, d)) → i ∉ vs := fun i k d e z => h i k d z e
  refine ⟨R.fb, R.bh, R.h0, R.fr, by rw [wipe_length]; exact R.len, fun i k d e => ?_, fun i j ki kj di dj ne oi oj ei ej => ?_⟩
  · obtain ⟨v, h1, h2⟩ := R.cells i k d e
    exact ⟨v, by rw [wipe_get (ni i k d e)]; exact h1, h2⟩
  · rw [wipe_get (ni i _ _ ei), wipe_get (ni j _ _ ej)]
    exact R.dist i j ki kj di dj ne oi oj ei ej
end

/-! ### comprehensions -/
/-- items by items: what each gives, in order -/
def lcM (f : D → Res (List D)) : List D → Res (List D)
  | [] => .ok []
  | d :: r => f d >>= fun a => lcM f r >>= fun q => .ok (a ++ q)
/-- what an item gives: nothing or one element -/
def lcF (rt : Res Bool) (re : Res D) : Res (List D) := rt >>= fun b => if b then re >>= fun x => .ok [x] else .ok []
/-- a clause's tests -/
def DTs (X : Cx) (C : Gd) (E : XK) (ρ : Env) (es : List Expr) (r : Res Bool) : Prop := PTs X es (tT X.K X.mg C E ρ r)
section
variable {X : Cx} {C : Gd} {E : XK} {ρ : Env}
theorem PTs_imp {es : List Expr} {t t' : TT} (h : PTs X es t) (k : ∀ σ H Q, t' σ H Q → t σ H Q) : PTs X es t' := ⟨fun pins s σ H Q I q => h.run pins s σ H Q I (k σ H Q q)⟩
theorem PTs_ex {es : List Expr} {ι : Type} {t : ι → TT} (h : ∀ i, PTs X es (t i)) : PTs X es (fun σ H Q => ∃ i, t i σ H Q) := ⟨fun pins s σ H Q I ⟨i, q⟩ => (h i).run pins s σ H Q I q⟩
theorem PE_ex {e : Expr} {ι : Type} {t : ι → TE} (h : ∀ i, PE X e (t i)) : PE X e (fun σ H Q => ∃ i, t i σ H Q) := ⟨fun pins s σ H Q I ⟨i, q⟩ => (h i).run pins s σ H Q I q⟩
theorem PI_ex {tg e : Expr} {ι : Type} {t : ι → TI} (h : ∀ i, PI X tg e (t i)) : PI X tg e (fun σ H R => ∃ i, t i σ H R) := ⟨fun pins s σ H R I ⟨i, q⟩ => (h i).run pins s σ H R I q⟩
theorem dts_nil : DTs X C E ρ [] (.ok true) := PTs_imp pts_nil fun σ H Q ⟨F, B, R, p⟩ => p _ _ _ R.ext0
theorem dts_one {c : Expr} {r : Res Bool} (h : DT X C E ρ c r) : DTs X C E ρ [c] r := pts_one h
end
/-- the frozen parts behind a comprehension's turns: they grow by what is new -/
structure Gr (F1 H1 F2 B2 : Hp) : Prop where
  f : Same F1 F2
  b : Same H1 B2
  nf : ∀ a o, F2 a = some o → F1 a = some o ∨ H1 a = none ∨ isTup o = true
theorem Gr.ext {F1 H1 F2 B2 H F3 B3 H3 : Hp} (g : Gr F1 H1 F2 B2) (bh : Same B2 H) (x : Ext F2 B2 H F3 B3 H3) : Gr F1 H1 F3 B3 :=
  ⟨g.f.trans x.f, g.b.trans x.b, fun a o e => by
    rcases x.nf a o e with q | q | q
    · exact g.nf a o q
    · exact .inr (.inl ((g.b.trans bh).free q))
    · exact .inr (.inr q)⟩
/-- two parts put together, the first one first -/
def mrg (A B : Hp) : Hp := fun a => match A a with
  | some o => some o
  | none => B a
theorem mrg_l (A B : Hp) : Same A (mrg A B) := fun a o e => by unfold mrg; rw [e]
theorem mrg_inv {A B : Hp} {a : Addr} {o : HO} (e : mrg A B a = some o) : A a = some o ∨ (A a = none ∧ B a = some o) := by
  unfold mrg at e
  cases q : A a with
  | some u => rw [q] at e; cases e; exact .inl rfl
  | none => rw [q] at e; exact .inr ⟨rfl, e⟩
theorem mrg_r {A B H : Hp} (a : Same A H) (b : Same B H) : Same B (mrg A B) := fun c o e => by
  unfold mrg
  cases q : A c with
  | some u =>
    have h1 := a _ _ q
    have h2 := b _ _ e
    rw [h1] at h2
    cases h2
    rfl
  | none => exact e
theorem mrg_sub {A B H : Hp} (a : Same A H) (b : Same B H) : Same (mrg A B) H := fun c o e => by
  rcases mrg_inv e with q | ⟨_, q⟩
  · exact a _ _ q
  · exact b _ _ q
/-- out of a comprehension, or of a call -/
theorem Ext.outc {F1 B1 H1 F2 H : Hp} (fb : Same F1 B1) (bh : Same B1 H1) (h1 : Same H1 H) (f : Same F1 F2) (f2 : Same F2 H) (nf : ∀ a o, F2 a = some o → F1 a = some o ∨ H1 a = none ∨ isTup o = true) : Ext F1 B1 H1 F2 (mrg B1 F2) H where
  f := f
  b := mrg_l _ _
  fb := mrg_r (bh.trans h1) f2
  bh := mrg_sub (bh.trans h1) f2
  h := h1
  nf := nf
  nb := fun a o e => by
    rcases mrg_inv e with q | ⟨_, q⟩
    · exact .inl q
    · rcases nf a o q with r | r | r
      · exact .inl (fb _ _ r)
      · exact .inr (.inl r)
      · exact .inr (.inr r)
section
variable {X : Cx} {C : Gd} {E : XK} {ρ : Env} {own : List Nat} {b : Bool} {T : Type} {ts : List Nat} {fT : D → Res T} {pt : T → Env} {rt : T → Res Bool} {t : Bool} {re : T → Res D}
/-- the readings of a clause's parts -/
abbrev gR (K : PySem.W.Frag) (C : Gd) (b : Bool) (ρ : Env) {T : Type} (ts : List Nat) (fT : D → Res T) (pt : T → Env) : TG := fun v σ H Q => ∃ F B d, Rel K C ρ F B σ H ∧ Rp K (sel b F B) v d ∧ (fT d).post (fun t => ∀ σ', Alike ts σ σ' → Rel K C (pt t) F B σ' H → Q σ' H) (fun _ _ => False)
abbrev tR (K : PySem.W.Frag) (mg : Str → Option Value) (C : Gd) {T : Type} (pt : T → Env) (rt : T → Res Bool) : TT := fun σ H Q => ∃ u, tT K mg C E0 (pt u) (rt u) σ H Q
abbrev eR (K : PySem.W.Frag) (mg : Str → Option Value) (C : Gd) {T : Type} (t : Bool) (pt : T → Env) (re : T → Res D) : TE := fun σ H Q => ∃ u, tD K mg C E0 (pt u) (kX t) (re u) σ H Q
/-- the reading of a comprehension with one clause: t: its elements are frozen; else they are only looked at -/
theorem lc_rd {rl : Res (List D)} (hts : ∀ i ∈ ts, i ∈ own) (fx : ∀ d c n, fT d ≠ .exc c n) (hE : ∀ t, EnvLe (cvE ρ own) (pt t)) {σ : L2.St} {H : Hp} {Q : VK}
    (h : tD X.K X.mg C E ρ (if t then .ow else .vw) (rl >>= fun l => lcM (fun d => (fT d >>= fun u => lcF (rt u) (re u)).noX) l >>= fun q => .ok (.list q)) σ H Q) :
    tLc (tI X.K X.mg C E ρ true b rl) (gR X.K C b (cvE ρ own) ts fT pt) (tR X.K X.mg C pt rt) (eR X.K X.mg C t pt re) own σ H Q := by
  have back : ∀ t F B σ H, Rel X.K C (pt t) F B σ H → Rel X.K C (cvE ρ own) F B (wipe σ own) H := fun t F B σ H R => (R.le (hE t)).wipe fun i k d hi e => (wipeE_some e).2 hi
  obtain ⟨F, B, R, p⟩ := h
  refine ⟨F, B, R, Res.post_mono (Res.post_bind p) fun l _ pl => fun F1 B1 H1 J x src => ?_⟩
  have src : Src X.K b F1 H1 J l := src
  intro Da hD
  have R1 := R.ext x
  have pl1 : (lcM (fun d => (fT d >>= fun u => lcF (rt u) (re u)).noX) l >>= fun q => .ok (.list q)).post (PP X.K (if t then .ow else .vw) Q F1 B1 H1) (EG X.mg C E) := Res.post_mono pl fun d _ z => z.mono x
  refine ⟨fun i m H => m = l.length - i ∧ i ≤ l.length ∧ ∃ F2 B2 acc ds, Rel X.K C (cvE ρ own) F2 B2 (wipe σ own) H ∧ Gr F1 H1 F2 B2 ∧ B2 Da = none ∧ H Da = some (.lst acc) ∧ RpAll X.K (sel t F2 B2) acc ds ∧ ds.length ≤ i ∧
      (lcM (fun d => (fT d >>= fun u => lcF (rt u) (re u)).noX) (l.drop i) >>= fun q => .ok (.list (ds ++ q))).post (PP X.K (if t then .ow else .vw) Q F1 B1 H1) (EG X.mg C E),
    ⟨l.length, by simp, Nat.zero_le _, F1, H1, [], [], R1.comp (Same.upd_none hD), ⟨.refl _, .refl _, fun _ _ e => .inl e⟩, hD, upd_same, .nil, Nat.le_refl _, by rw [List.drop_zero]; exact pl1⟩, ?_⟩
  rintro i m H2 ⟨rfl, hi, F2, B2, acc, ds, R2, g, hB, hA, ra, hl, p2⟩
  by_cases hlt : i < l.length
  · have hd : l[i]? = some l[i] := List.getElem?_eq_getElem hlt
    obtain ⟨g1, g2⟩ := src.go i F2 B2 H2 l[i] g.f g.b R2.fb R2.bh hd
    refine .inr ⟨g1, fun H' => ∃ F3 B3 acc ds, Rel X.K C (cvE ρ own) F3 B3 (wipe σ own) H' ∧ Gr F1 H1 F3 B3 ∧ B3 Da = none ∧ H' Da = some (.lst acc) ∧ RpAll X.K (sel t F3 B3) acc ds ∧ ds.length ≤ i + 1 ∧
      (lcM (fun d => (fT d >>= fun u => lcF (rt u) (re u)).noX) (l.drop (i + 1)) >>= fun q => .ok (.list (ds ++ q))).post (PP X.K (if t then .ow else .vw) Q F1 B1 H1) (EG X.mg C E), fun H' hN => ⟨l.length - (i + 1), by omega, rfl, hlt, hN⟩, fun v H3 hy => ?_⟩
    obtain ⟨F3, B3, x3, r3⟩ := g2 v H3 hy
    have R3 := R2.ext x3
    refine ⟨F3, B3, l[i], R3, r3, ?_⟩
    rw [List.drop_eq_getElem_cons hlt] at p2
    simp only [lcM, Res.bind_assoc, Res.bind_ok] at p2
    have p3 := Res.noX_post (Y := fun _ _ => False) (Res.post_bind p2)
    cases q : fT l[i] with
    | ok u =>
      rw [q] at p3
      refine fun σ' al R' => ⟨wipe_alike al hts |>.trans wipe_wipe, u, F3, B3, R', ?_⟩
      rw [q] at p2
      have p4 := Res.noX_post (Y := EG X.mg C E0) (Res.post_bind p2)
      refine Res.post_mono (Res.post_bind (r := rt u) (f := fun b => if b then re u >>= fun x => Res.ok [x] else Res.ok []) p4) fun bb _ pb => fun F4 B4 H4 x4 => ?_
      have R4 := R'.ext x4
      have gr4 : Gr F1 H1 F4 B4 := (g.ext R2.bh x3).ext R3.bh x4
      have hA3 := x3.h _ _ hA
      have hA4 := x4.h _ _ hA3
      have hB4 := x4.bnone hA3 (x3.bnone hA hB)
      have ra4 := RpAll.mono ((sel_ext x3).trans (sel_ext x4)) ds acc ra
      have wp : ∀ {F5 B5 H5 : Hp}, Rel X.K C (pt u) F5 B5 σ' H5 → Rel X.K C (cvE ρ own) F5 B5 (wipe σ own) H5 := fun r => by
        have z := back u _ _ _ _ r
        rw [(wipe_alike al hts).trans wipe_wipe] at z
        exact z
      cases bb with
      | false =>
        refine iteF ⟨F4, B4, acc, ds, wp R4, gr4, hB4, hA4, ra4, by omega, ?_⟩
        exact pb
      | true =>
        refine iteT ⟨u, F4, B4, R4, Res.post_mono (Res.post_bind (r := re u) (f := fun x => Res.ok [x]) pb) fun y _ py => fun F5 B5 H5 w x5 r5 => ?_⟩
        have hA5 := x5.h _ _ hA4
        have hB5 := x5.bnone hA4 hB4
        have hz : acc.length < sizeLine := by
          rw [ra.length]
          exact Nat.lt_of_le_of_lt hl (Nat.lt_of_lt_of_le hlt src.len)
        refine ⟨acc, hA5, hz, F5, B5, acc ++ [w], ds ++ [y], ?_, gr4.ext R4.bh x5, hB5, upd_same, (RpAll.mono (sel_ext x5) ds acc ra4).append (.cons (RepX.kX r5) .nil), by rw [List.length_append, List.length_singleton]; omega, ?_⟩
        · exact (wp (R4.ext x5)).other hB5 cvE_own
        · have e : ∀ q : List D, ds ++ [y] ++ q = ds ++ ([y] ++ q) := fun q => List.append_assoc _ _ _
          simp only [e]
          exact py
    | exc c n => exact absurd q (fx _ c n)
    | stuck => rw [q] at p3; exact p3.elim
  · have e : i = l.length := by omega
    subst e
    rw [List.drop_length] at p2
    simp only [lcM, Res.bind_ok, List.append_nil] at p2
    refine .inl ⟨src.stop _ F2 B2 H2 g.f g.b R2.fb R2.bh (Nat.le_refl _), ?_⟩
    have y := Ext.outc R1.fb R1.bh (g.b.trans R2.bh) g.f (R2.fb.trans R2.bh) g.nf
    have nB : mrg B1 F2 Da = none := by
      cases q : mrg B1 F2 Da with
      | none => rfl
      | some o =>
        rcases mrg_inv q with r | ⟨_, r⟩
        · have := R1.bh _ _ r; rw [hD] at this; cases this
        · have := R2.fb _ _ r; rw [hB] at this; cases this
    cases t with
    | true => exact p2 _ _ _ _ y ⟨Da, acc, ds, rfl, rfl, hA, nB, hD, ra⟩
    | false => exact p2 _ _ _ _ y (.lst (.inl hA) (RpAll.mono R2.bh ds acc ra))
variable {elt tg iter : Expr} {ifs : List Expr} {scope : Scope} {names : List (Str × Nat)} {pos : Pos} {rl : Res (List D)}
abbrev slotsOf (names : List (Str × Nat)) : List Nat := names.map (·.2)
/-- what a comprehension of one clause gives -/
def lcR (rl : Res (List D)) (f : D → Res (List D)) : Res D := rl >>= fun l => lcM (fun d => (f d).noX) l >>= fun q => .ok (.list q)
def lcK (t : Bool) : Kd := if t then .ow else .vw
theorem de_lc (t : Bool) (hc : X.calm = true) (nd : X.N.Nodup) (hi : DI X C E ρ tg iter true b rl) (ok : BlkOk X.N X.env.scope scope names)
    (hg : ∀ (s : Shared) (H : Hp) (A : Addr) (cl : List (Str × Addr)) (fp : List Addr), DG (X.blk s H scope (compEnvC scope cl A X.env) fp) C b (cvE ρ (slotsOf names)) tg ts fT pt)
    (ht : ∀ (s : Shared) (H : Hp) (A : Addr) (cl : List (Str × Addr)) (fp : List Addr) (u : T), DTs (X.blk s H scope (compEnvC scope cl A X.env) fp) C E0 (pt u) ifs (rt u))
    (he : ∀ (s : Shared) (H : Hp) (A : Addr) (cl : List (Str × Addr)) (fp : List Addr) (u : T), DE (X.blk s H scope (compEnvC scope cl A X.env) fp) C E0 (pt u) elt (kX t) (re u))
    (fx : ∀ d c n, fT d ≠ .exc c n) (hts : ∀ i ∈ ts, i ∈ slotsOf names) (hE : ∀ t, EnvLe (cvE ρ (slotsOf names)) (pt t)) (hs : ∀ x, foldedSetIterable iter X.env x = pure x := by intro _; rfl) :
    DE X C E ρ (.ListComp elt [⟨tg, iter, ifs, 0⟩] scope pos) (lcK t) (lcR rl (fun d => fT d >>= fun u => lcF (rt u) (re u))) :=
  PE_imp (pe_lc (g := gR X.K C b (cvE ρ (slotsOf names)) ts fT pt) (tt := tR X.K X.mg C pt rt) (te := eR X.K X.mg C t pt re) hc nd hi ok (fun s H A cl fp => hg s H A cl fp) (fun s H A cl fp => PTs_ex (ht s H A cl fp)) (fun s H A cl fp => PE_ex (he s H A cl fp)) hs) fun σ H Q h => lc_rd hts fx hE h
theorem db_setLc {kr : Kd} {ss : List Stmt} {S L : Type} {po : S → Env} {pk : L → Env} {i : Nat} {y : Str} {py spos : Pos} {f : D → Res (Fl S L)} (hc : X.calm = true) (nd : X.N.Nodup) (hi : DI X C E ρ tg iter true b rl) (ok : BlkOk X.N X.env.scope scope names)
    (hg : ∀ (s : Shared) (H : Hp) (A : Addr) (cl : List (Str × Addr)) (fp : List Addr), DG (X.blk s H scope (compEnvC scope cl A X.env) fp) C b (cvE ρ (slotsOf names)) tg ts fT pt)
    (ht : ∀ (s : Shared) (H : Hp) (A : Addr) (cl : List (Str × Addr)) (fp : List Addr) (u : T), DTs (X.blk s H scope (compEnvC scope cl A X.env) fp) C E0 (pt u) ifs (rt u))
    (he : ∀ (s : Shared) (H : Hp) (A : Addr) (cl : List (Str × Addr)) (fp : List Addr) (u : T), DE (X.blk s H scope (compEnvC scope cl A X.env) fp) C E0 (pt u) elt .sh (re u))
    (fx : ∀ d c n, fT d ≠ .exc c n) (hts : ∀ i ∈ ts, i ∈ slotsOf names) (hE : ∀ t, EnvLe (cvE ρ (slotsOf names)) (pt t)) (rest : ∀ d, DB X C E kr (ρ.set i (some (.ow, d))) ss po pk (f d))
    (hin : i < ρ.length := by exact Nat.le_of_ble_eq_true rfl) (hy : X.N[i]? = some y := by rfl) (hyl : X.env.scope.names.lookup y = some .local := by rfl)
    (hsw : swapsWith (.ListComp elt [⟨tg, iter, ifs, 0⟩] scope pos) (some (.Name y py)) spos.line X.env = pure true := by exact sw_true rfl rfl rfl (by decide +kernel)) (hs : ∀ x, foldedSetIterable iter X.env x = pure x := by intro _; rfl) :
    DB X C E kr ρ (.Assign [.Name y py] (.ListComp elt [⟨tg, iter, ifs, 0⟩] scope pos) spos :: ss) po pk (lcR rl (fun d => fT d >>= fun u => lcF (rt u) (re u)) >>= f) :=
  PSs_imp (pss_cons (ps_setLc (g := gR X.K C b (cvE ρ (slotsOf names)) ts fT pt) (tt := tR X.K X.mg C pt rt) (te := eR X.K X.mg C true pt re) hc nd hy hyl hsw hi ok (fun s H A cl fp => hg s H A cl fp) (fun s H A cl fp => PTs_ex (ht s H A cl fp)) (fun s H A cl fp => PE_ex (he s H A cl fp)) hs) (PSs_ex rest)) fun Z σ H ⟨F, B, R, p⟩ => by
    unfold tSeq tAsg
    refine lc_rd (t := true) (E := E) hts fx hE ⟨F, B, R, Res.post_mono (Res.post_bind p) fun d _ pd => fun F1 B1 H1 v x r => ?_⟩
    exact ⟨d, F1, B1, R.store x rfl hin r, flMono x.f x.b pd⟩
end
end DL

/-! DL9: comprehensions with two clauses -/
namespace DL
open PySem PySem.Spec L2
open PyProof.Rows hiding St

section
variable {X : Cx} {C : Gd} {E : XK} {ρ : Env} {own own1 : List Nat} {b b1 : Bool} {T T1 : Type} {ts ts1 : List Nat} {fT : D → Res T} {pt : T → Env} {rt : T → Res Bool} {t : Bool}
  {rl1 : T → Res (List D)} {fT1 : D → Res T1} {pt1 : T → T1 → Env} {rt1 : T → T1 → Res Bool} {re : T → T1 → Res D}
/-- the inner clause's part of an item -/
def lc2F (rt : Res Bool) (rl1 : Res (List D)) (f : D → Res (List D)) : Res (List D) := rt >>= fun b => if b then rl1 >>= fun l => lcM f l else .ok []
abbrev iR1 (K : PySem.W.Frag) (mg : Str → Option Value) (C : Gd) (b1 : Bool) {T : Type} (pt : T → Env) (rl1 : T → Res (List D)) : TI := fun σ H R => ∃ u, tI K mg C E0 (pt u) false b1 (rl1 u) σ H R
abbrev gR1 (K : PySem.W.Frag) (C : Gd) (b1 : Bool) {T T1 : Type} (pt : T → Env) (ts1 : List Nat) (fT1 : D → Res T1) (pt1 : T → T1 → Env) : TG := fun v σ H Q => ∃ u, gR K C b1 (pt u) ts1 fT1 (pt1 u) v σ H Q
abbrev tR1 (K : PySem.W.Frag) (mg : Str → Option Value) (C : Gd) {T T1 : Type} (pt1 : T → T1 → Env) (rt1 : T → T1 → Res Bool) : TT := fun σ H Q => ∃ u w, tT K mg C E0 (pt1 u w) (rt1 u w) σ H Q
abbrev eR1 (K : PySem.W.Frag) (mg : Str → Option Value) (C : Gd) {T T1 : Type} (t : Bool) (pt1 : T → T1 → Env) (re : T → T1 → Res D) : TE := fun σ H Q => ∃ u w, tD K mg C E0 (pt1 u w) (kX t) (re u w) σ H Q
theorem mkL_len {ds : List D} {P : D → Prop} {Y : Str → Int → Prop} (h : (mkL ds).post P Y) : ds.length ≤ sizeLine ∧ P (.list ds) := by
  unfold mkL at h
  by_cases z : ds.length ≤ sizeLine
  · rw [if_pos z] at h; exact ⟨z, h⟩
  · rw [if_neg z] at h; exact h.elim
/-- a size that is within the line in the end is so before -/
theorem lc_len {f : D → Res (List D)} {l : List D} {ds : List D} {P : D → Prop} {Y : Str → Int → Prop} (h : (lcM f l >>= fun q => mkL (ds ++ q)).post P Y) (ny : ∀ c n, ¬ (lcM f l) = .exc c n) : ds.length ≤ sizeLine := by
  cases q : lcM f l with
  | ok a =>
    rw [q] at h
    have := (mkL_len h).1
    rw [List.length_append] at this
    omega
  | exc c n => exact absurd q (ny c n)
  | stuck => rw [q] at h; exact h.elim
theorem lcM_nx {f : D → Res (List D)} : ∀ (l : List D) (c : Str) (n : Int), ¬ lcM (fun d => (f d).noX) l = .exc c n
  | [], c, n, h => by cases h
  | d :: r, c, n, h => by
    simp only [lcM] at h
    cases q : f d with
    | ok a =>
      rw [q] at h
      cases q2 : lcM (fun d => (f d).noX) r with
      | ok z => rw [q2] at h; cases h
      | exc c' n' => exact lcM_nx r c' n' q2
      | stuck => rw [q2] at h; cases h
    | exc c' n' => rw [q] at h; cases h
    | stuck => rw [q] at h; cases h
theorem lc2_rd {rl : Res (List D)} (hts : ∀ i ∈ ts, i ∈ own) (hts1 : ∀ i ∈ ts1, i ∈ own1) (ho1 : ∀ i ∈ own1, i ∈ own) (fx : ∀ d c n, fT d ≠ .exc c n) (fx1 : ∀ d c n, fT1 d ≠ .exc c n) (hE : ∀ u, EnvLe (cvE ρ own) (pt u)) (hE1 : ∀ u w, EnvLe (pt u) (pt1 u w))
    (hn : ∀ u (i : Nat) k d, i ∈ own1 → (pt u)[i]? ≠ some (some (k, d))) (hno : ∀ u (i : Nat) k d, (pt u)[i]? = some (some (k, d)) → DL.own k = false) {σ : L2.St} {H : Hp} {Q : VK}
    (h : tD X.K X.mg C E ρ (lcK t) (rl >>= fun l => lcM (fun d => (fT d >>= fun u => lc2F (rt u) (rl1 u) (fun d1 => fT1 d1 >>= fun w => lcF (rt1 u w) (re u w))).noX) l >>= mkL) σ H Q) :
    tLc2 (tI X.K X.mg C E ρ true b rl) (gR X.K C b (cvE ρ own) ts fT pt) (tR X.K X.mg C pt rt) (iR1 X.K X.mg C b1 pt rl1) (gR1 X.K C b1 pt ts1 fT1 pt1) (tR1 X.K X.mg C pt1 rt1) (eR1 X.K X.mg C t pt1 re) own own1 σ H Q := by
  have back : ∀ u F B σ H, Rel X.K C (pt u) F B σ H → Rel X.K C (cvE ρ own) F B (wipe σ own) H := fun u F B σ H R => (R.le (hE u)).wipe fun i k d hi e => (wipeE_some e).2 hi
  obtain ⟨F, B, R, p⟩ := h
  refine ⟨F, B, R, Res.post_mono (Res.post_bind p) fun l _ pl => fun F1 B1 H1 J x src => ?_⟩
  have src : Src X.K b F1 H1 J l := src
  intro Da hD
  have R1 := R.ext x
  generalize hf : (fun d => (fT d >>= fun u => lc2F (rt u) (rl1 u) (fun d1 => fT1 d1 >>= fun w => lcF (rt1 u w) (re u w))).noX) = f at pl
  have pl1 : (lcM f l >>= mkL).post (PP X.K (lcK t) Q F1 B1 H1) (EG X.mg C E) := Res.post_mono pl fun d _ z => z.mono x
  let Inv0 : Nat → Hp → Prop := fun i H => ∃ F2 B2 acc ds, Rel X.K C (cvE ρ own) F2 B2 (wipe σ own) H ∧ Gr F1 H1 F2 B2 ∧ B2 Da = none ∧ H Da = some (.lst acc) ∧ RpAll X.K (sel t F2 B2) acc ds ∧
      (lcM f (l.drop i) >>= fun q => mkL (ds ++ q)).post (PP X.K (lcK t) Q F1 B1 H1) (EG X.mg C E)
  refine ⟨fun i m H => m = l.length - i ∧ i ≤ l.length ∧ Inv0 i H, ⟨l.length, by simp, Nat.zero_le _, F1, H1, [], [], R1.comp (Same.upd_none hD), ⟨.refl _, .refl _, fun _ _ e => .inl e⟩, hD, upd_same, .nil, by rw [List.drop_zero]; exact pl1⟩, ?_⟩
  rintro i m H2 ⟨rfl, hi, F2, B2, acc, ds, R2, g, hB, hA, ra, p2⟩
  by_cases hlt : i < l.length
  · have hd : l[i]? = some l[i] := List.getElem?_eq_getElem hlt
    obtain ⟨g1, g2⟩ := src.go i F2 B2 H2 l[i] g.f g.b R2.fb R2.bh hd
    refine .inr ⟨g1, fun H' => Inv0 (i + 1) H', fun H' hN => ⟨l.length - (i + 1), by omega, rfl, hlt, hN⟩, fun v H3 hy => ?_⟩
    obtain ⟨F3, B3, x3, r3⟩ := g2 v H3 hy
    have R3 := R2.ext x3
    refine ⟨F3, B3, l[i], R3, r3, ?_⟩
    rw [List.drop_eq_getElem_cons hlt] at p2
    simp only [lcM, Res.bind_assoc, Res.bind_ok] at p2
    have p3 := p2
    rw [← hf] at p3
    have p3 := Res.noX_post (Y := fun _ _ => False) (Res.post_bind p3)
    cases q : fT l[i] with
    | ok u =>
      refine fun σ' al R' => ⟨wipe_alike al hts |>.trans wipe_wipe, u, F3, B3, R', ?_⟩
      have ef : f l[i] = (lc2F (rt u) (rl1 u) (fun d1 => fT1 d1 >>= fun w => lcF (rt1 u w) (re u w))).noX := by
        rw [← hf]
        simp only [q, Res.bind_ok]
      rw [ef] at p2
      have p4 := Res.noX_post (Y := fun _ _ => False) (Res.post_bind p2)
      refine Res.post_weak <| Res.post_mono (Res.post_bind (r := rt u) (f := fun b => if b then rl1 u >>= fun l => lcM (fun d1 => fT1 d1 >>= fun w => lcF (rt1 u w) (re u w)) l else Res.ok []) p4) fun bb _ pb => fun F4 B4 H4 x4 => ?_
      have R4 := R'.ext x4
      have gr4 : Gr F1 H1 F4 B4 := (g.ext R2.bh x3).ext R3.bh x4
      have hA3 := x3.h _ _ hA
      have hA4 := x4.h _ _ hA3
      have hB4 := x4.bnone hA3 (x3.bnone hA hB)
      have ra4 := RpAll.mono ((sel_ext x3).trans (sel_ext x4)) ds acc ra
      have wp : ∀ {F5 B5 H5 : Hp} {σ5 : L2.St}, wipe σ5 own = wipe σ' own → Rel X.K C (pt u) F5 B5 σ5 H5 → Rel X.K C (cvE ρ own) F5 B5 (wipe σ own) H5 := fun e r => by
        have z := back u _ _ _ _ r
        rw [e, (wipe_alike al hts).trans wipe_wipe] at z
        exact z
      cases bb with
      | false => exact iteF ⟨F4, B4, acc, ds, wp rfl R4, gr4, hB4, hA4, ra4, pb⟩
      | true =>
        refine iteT ⟨u, F4, B4, R4, Res.post_weak <| Res.post_mono (Res.post_bind (r := rl1 u) (f := fun l => lcM (fun d1 => fT1 d1 >>= fun w => lcF (rt1 u w) (re u w)) l) pb) fun l1 _ pl1 => fun F5 B5 H5 J1 x5 src1 => ?_⟩
        have src1 : Src X.K b1 F5 B5 J1 l1 := src1
        have R5 := R4.ext x5
        have hA5 := x5.h _ _ hA4
        have hB5 := x5.bnone hA4 hB4
        have gr5 := gr4.ext R4.bh x5
        -- the inner turns
        refine ⟨fun j k H => k = l1.length - j ∧ j ≤ l1.length ∧ ∃ F6 B6 acc ds, Rel X.K C (pt u) F6 B6 (wipe σ' own1) H ∧ Gr F1 H1 F6 B6 ∧ Same F5 F6 ∧ Same B5 B6 ∧ B6 Da = none ∧ H Da = some (.lst acc) ∧ RpAll X.K (sel t F6 B6) acc ds ∧
            (lcM (fun d1 => fT1 d1 >>= fun w => lcF (rt1 u w) (re u w)) (l1.drop j)).post (fun a => (lcM f (l.drop (i + 1)) >>= fun q => mkL (ds ++ (a ++ q))).post (PP X.K (lcK t) Q F1 B1 H1) (EG X.mg C E)) (fun _ _ => False),
          ⟨l1.length, by simp, Nat.zero_le _, F5, B5, acc, ds, R5.wipe (hn u), gr5, .refl _, .refl _, hB5, hA5, RpAll.mono (sel_ext x5) ds acc ra4, by rw [List.drop_zero]; exact pl1⟩, ?_⟩
        rintro j k H6 ⟨rfl, hj, F6, B6, acc6, ds6, R6, gr6, f56, b56, hB6, hA6, ra6, p6⟩
        by_cases hlt1 : j < l1.length
        · have hd1 : l1[j]? = some l1[j] := List.getElem?_eq_getElem hlt1
          obtain ⟨g61, g62⟩ := src1.go j F6 B6 H6 l1[j] f56 b56 R6.fb R6.bh hd1
          refine .inr ⟨g61, fun H => ∃ F7 B7 acc ds, Rel X.K C (pt u) F7 B7 (wipe σ' own1) H ∧ Gr F1 H1 F7 B7 ∧ Same F5 F7 ∧ Same B5 B7 ∧ B7 Da = none ∧ H Da = some (.lst acc) ∧ RpAll X.K (sel t F7 B7) acc ds ∧
            (lcM (fun d1 => fT1 d1 >>= fun w => lcF (rt1 u w) (re u w)) (l1.drop (j + 1))).post (fun a => (lcM f (l.drop (i + 1)) >>= fun q => mkL (ds ++ (a ++ q))).post (PP X.K (lcK t) Q F1 B1 H1) (EG X.mg C E)) (fun _ _ => False), fun H' hN => ⟨l1.length - (j + 1), by omega, rfl, hlt1, hN⟩, fun v1 H7 hy1 => ?_⟩
          obtain ⟨F7, B7, x7, r7⟩ := g62 v1 H7 hy1
          have R7 := R6.ext x7
          refine ⟨u, F7, B7, l1[j], R7, r7, ?_⟩
          rw [List.drop_eq_getElem_cons hlt1] at p6
          simp only [lcM, Res.bind_assoc] at p6
          cases q1 : fT1 l1[j] with
          | ok w =>
            rw [q1] at p6
            have p7 : (rt1 u w >>= fun b => if b then re u w >>= fun x => Res.ok [x] else Res.ok []).post _ (fun _ _ => False) := Res.post_bind p6
            refine fun σ7 al7 R7' => ⟨(wipe_alike al7 hts1).trans wipe_wipe, u, w, F7, B7, R7', Res.post_weak <| Res.post_mono (Res.post_bind p7) fun b7 _ pb7 => fun F8 B8 H8 x8 => ?_⟩
            have R8 := R7'.ext x8
            have gr8 : Gr F1 H1 F8 B8 := (gr6.ext R6.bh x7).ext R7.bh x8
            have hA7 := x7.h _ _ hA6
            have hA8 := x8.h _ _ hA7
            have hB8 := x8.bnone hA7 (x7.bnone hA6 hB6)
            have ra8 := RpAll.mono ((sel_ext x7).trans (sel_ext x8)) ds6 acc6 ra6
            have f58 := (f56.trans x7.f).trans x8.f
            have b58 := (b56.trans x7.b).trans x8.b
            have wp1 : ∀ {F9 B9 H9 : Hp}, Rel X.K C (pt1 u w) F9 B9 σ7 H9 → Rel X.K C (pt u) F9 B9 (wipe σ' own1) H9 := fun r => by
              have z := (r.le (hE1 u w)).wipe (hn u)
              rw [(wipe_alike al7 hts1).trans wipe_wipe] at z
              exact z
            cases b7 with
            | false => exact iteF ⟨F8, B8, acc6, ds6, wp1 R8, gr8, f58, b58, hB8, hA8, ra8, Res.post_mono (Res.post_bind pb7) fun a _ pa => pa⟩
            | true =>
              refine iteT ⟨u, w, F8, B8, R8, Res.post_weak <| Res.post_mono (Res.post_bind (r := re u w) (f := fun x => Res.ok [x]) pb7) fun y _ py => fun F9 B9 H9 z x9 r9 => ?_⟩
              have hA9 := x9.h _ _ hA8
              have hB9 := x9.bnone hA8 hB8
              have py2 := Res.post_bind py
              have ea : ∀ a q : List D, ds6 ++ [y] ++ (a ++ q) = ds6 ++ ([y] ++ a ++ q) := fun a q => by simp only [List.append_assoc]
              have hz : acc6.length < sizeLine := by
                rw [ra6.length]
                cases qq : lcM (fun d1 => fT1 d1 >>= fun w => lcF (rt1 u w) (re u w)) (l1.drop (j + 1)) with
                | ok a =>
                  rw [qq] at py2
                  have z3 := lc_len (ds := ds6 ++ [y] ++ a) (f := f) (l := l.drop (i + 1)) (P := PP X.K (lcK t) Q F1 B1 H1) (Y := EG X.mg C E) (by
                    have e3 : ∀ q : List D, ds6 ++ [y] ++ a ++ q = ds6 ++ ([y] ++ a ++ q) := fun q => by simp only [List.append_assoc]
                    simp only [e3]
                    exact py2) (by rw [← hf]; exact lcM_nx _)
                  rw [List.length_append, List.length_append, List.length_singleton] at z3
                  omega
                | exc c n =>
                  rw [qq] at py2
                  exact False.elim py2
                | stuck => rw [qq] at py2; exact py2.elim
              refine ⟨acc6, hA9, hz, F9, B9, acc6 ++ [z], ds6 ++ [y], ?_, gr8.ext R8.bh x9, f58.trans x9.f, b58.trans x9.b, hB9, upd_same, (RpAll.mono (sel_ext x9) ds6 acc6 ra8).append (.cons (RepX.kX r9) .nil), ?_⟩
              · exact (wp1 (R8.ext x9)).other hB9 (hno u)
              · simp only [ea]
                exact Res.post_mono py2 fun a _ pa => pa
          | exc c n => exact absurd q1 (fx1 _ c n)
          | stuck => rw [q1] at p6; exact p6.elim
        · have e : j = l1.length := by omega
          subst e
          rw [List.drop_length] at p6
          refine .inl ⟨src1.stop _ F6 B6 H6 f56 b56 R6.fb R6.bh (Nat.le_refl _), F6, B6, acc6, ds6, ?_, gr6, hB6, hA6, ra6, p6⟩
          have z := wp (σ5 := wipe σ' own1) (by
            apply List.ext_getElem?
            intro i
            by_cases hi : i ∈ own
            · by_cases hl : i < σ'.length
              · rw [wipe_none hi (by rw [wipe_length]; exact hl), wipe_none hi hl]
              · rw [List.getElem?_eq_none (by rw [wipe_length, wipe_length]; omega), List.getElem?_eq_none (by rw [wipe_length]; omega)]
            · rw [wipe_get hi, wipe_get hi, wipe_get fun q => hi (ho1 i q)]) R6
          exact z
    | exc c n => exact absurd q (fx _ c n)
    | stuck => rw [q] at p3; exact p3.elim
  · have e : i = l.length := by omega
    subst e
    rw [List.drop_length] at p2
    simp only [lcM, Res.bind_ok, List.append_nil] at p2
    have p2 := (mkL_len p2).2
    refine .inl ⟨src.stop _ F2 B2 H2 g.f g.b R2.fb R2.bh (Nat.le_refl _), ?_⟩
    have y := Ext.outc R1.fb R1.bh (g.b.trans R2.bh) g.f (R2.fb.trans R2.bh) g.nf
    have nB : mrg B1 F2 Da = none := by
      cases q : mrg B1 F2 Da with
      | none => rfl
      | some o =>
        rcases mrg_inv q with r | ⟨_, r⟩
        · have := R1.bh _ _ r; rw [hD] at this; cases this
        · have := R2.fb _ _ r; rw [hB] at this; cases this
    cases t with
    | true => exact p2 _ _ _ _ y ⟨Da, acc, ds, rfl, rfl, hA, nB, hD, ra⟩
    | false => exact p2 _ _ _ _ y (.lst (.inl hA) (RpAll.mono R2.bh ds acc ra))
variable {elt tg iter tg1 iter1 : Expr} {ifs ifs1 : List Expr} {scope : Scope} {names : List (Str × Nat)} {pos : Pos} {rl : Res (List D)}
/-- what a comprehension of two clauses gives -/
def lcR2 (rl : Res (List D)) (f : D → Res (List D)) : Res D := rl >>= fun l => lcM (fun d => (f d).noX) l >>= mkL
theorem de_lc2 (t : Bool) (own1 : List Nat) (hc : X.calm = true) (nd : X.N.Nodup) (hi : DI X C E ρ tg iter true b rl) (ok : BlkOk X.N X.env.scope scope names)
    (hg : ∀ (s : Shared) (H : Hp) (A : Addr) (cl : List (Str × Addr)) (fp : List Addr), DG (X.blk s H scope (compEnvC scope cl A X.env) fp) C b (cvE ρ (slotsOf names)) tg ts fT pt)
    (ht : ∀ (s : Shared) (H : Hp) (A : Addr) (cl : List (Str × Addr)) (fp : List Addr) (u : T), DTs (X.blk s H scope (compEnvC scope cl A X.env) fp) C E0 (pt u) ifs (rt u))
    (hi1 : ∀ (s : Shared) (H : Hp) (A : Addr) (cl : List (Str × Addr)) (fp : List Addr) (u : T), DI (X.blk s H scope (compEnvC scope cl A X.env) fp) C E0 (pt u) tg1 iter1 false b1 (rl1 u))
    (hg1 : ∀ (s : Shared) (H : Hp) (A : Addr) (cl : List (Str × Addr)) (fp : List Addr) (u : T), DG (X.blk s H scope (compEnvC scope cl A X.env) fp) C b1 (pt u) tg1 ts1 fT1 (pt1 u))
    (ht1 : ∀ (s : Shared) (H : Hp) (A : Addr) (cl : List (Str × Addr)) (fp : List Addr) (u : T) (w : T1), DTs (X.blk s H scope (compEnvC scope cl A X.env) fp) C E0 (pt1 u w) ifs1 (rt1 u w))
    (he : ∀ (s : Shared) (H : Hp) (A : Addr) (cl : List (Str × Addr)) (fp : List Addr) (u : T) (w : T1), DE (X.blk s H scope (compEnvC scope cl A X.env) fp) C E0 (pt1 u w) elt (kX t) (re u w))
    (fx : ∀ d c n, fT d ≠ .exc c n) (fx1 : ∀ d c n, fT1 d ≠ .exc c n) (hts : ∀ i ∈ ts, i ∈ slotsOf names) (hts1 : ∀ i ∈ ts1, i ∈ own1) (ho1 : ∀ i ∈ own1, i ∈ slotsOf names) (hE : ∀ t, EnvLe (cvE ρ (slotsOf names)) (pt t)) (hE1 : ∀ u w, EnvLe (pt u) (pt1 u w))
    (hn : ∀ u (i : Nat) k d, i ∈ own1 → (pt u)[i]? ≠ some (some (k, d))) (hno : ∀ u (i : Nat) k d, (pt u)[i]? = some (some (k, d)) → DL.own k = false)
    (hs : ∀ x, foldedSetIterable iter X.env x = pure x := by intro _; rfl) (hs1 : ∀ env x, foldedSetIterable iter1 env x = pure x := by intro _ _; rfl) :
    DE X C E ρ (.ListComp elt [⟨tg, iter, ifs, 0⟩, ⟨tg1, iter1, ifs1, 0⟩] scope pos) (lcK t) (lcR2 rl (fun d => fT d >>= fun u => lc2F (rt u) (rl1 u) (fun d1 => fT1 d1 >>= fun w => lcF (rt1 u w) (re u w)))) :=
  PE_imp (pe_lc2 (vs1 := own1) (wi := tI X.K X.mg C E ρ true b rl) (g := gR X.K C b (cvE ρ (slotsOf names)) ts fT pt) (tt := tR X.K X.mg C pt rt) (wi1 := iR1 X.K X.mg C b1 pt rl1) (g1 := gR1 X.K C b1 pt ts1 fT1 pt1) (tt1 := tR1 X.K X.mg C pt1 rt1) (te := eR1 X.K X.mg C t pt1 re) hc nd hi ok ho1 (fun s H A cl fp => hg s H A cl fp) (fun s H A cl fp => PTs_ex (ht s H A cl fp)) (fun s H A cl fp => PI_ex (hi1 s H A cl fp)) (fun s H A cl fp => PG_ex (hg1 s H A cl fp)) (fun s H A cl fp => PTs_ex fun u => PTs_ex (ht1 s H A cl fp u)) (fun s H A cl fp => PE_ex fun u => PE_ex (he s H A cl fp u)) hs hs1) fun σ H Q h => lc2_rd hts hts1 ho1 fx fx1 hE hE1 hn hno h
theorem db_setLc2 {kr : Kd} {ss : List Stmt} {S L : Type} {po : S → Env} {pk : L → Env} {i : Nat} {y : Str} {py spos : Pos} {f : D → Res (Fl S L)} (own1 : List Nat) (hc : X.calm = true) (nd : X.N.Nodup) (hi : DI X C E ρ tg iter true b rl) (ok : BlkOk X.N X.env.scope scope names)
    (hg : ∀ (s : Shared) (H : Hp) (A : Addr) (cl : List (Str × Addr)) (fp : List Addr), DG (X.blk s H scope (compEnvC scope cl A X.env) fp) C b (cvE ρ (slotsOf names)) tg ts fT pt)
    (ht : ∀ (s : Shared) (H : Hp) (A : Addr) (cl : List (Str × Addr)) (fp : List Addr) (u : T), DTs (X.blk s H scope (compEnvC scope cl A X.env) fp) C E0 (pt u) ifs (rt u))
    (hi1 : ∀ (s : Shared) (H : Hp) (A : Addr) (cl : List (Str × Addr)) (fp : List Addr) (u : T), DI (X.blk s H scope (compEnvC scope cl A X.env) fp) C E0 (pt u) tg1 iter1 false b1 (rl1 u))
    (hg1 : ∀ (s : Shared) (H : Hp) (A : Addr) (cl : List (Str × Addr)) (fp : List Addr) (u : T), DG (X.blk s H scope (compEnvC scope cl A X.env) fp) C b1 (pt u) tg1 ts1 fT1 (pt1 u))
    (ht1 : ∀ (s : Shared) (H : Hp) (A : Addr) (cl : List (Str × Addr)) (fp : List Addr) (u : T) (w : T1), DTs (X.blk s H scope (compEnvC scope cl A X.env) fp) C E0 (pt1 u w) ifs1 (rt1 u w))
    (he : ∀ (s : Shared) (H : Hp) (A : Addr) (cl : List (Str × Addr)) (fp : List Addr) (u : T) (w : T1), DE (X.blk s H scope (compEnvC scope cl A X.env) fp) C E0 (pt1 u w) elt .sh (re u w))
    (fx : ∀ d c n, fT d ≠ .exc c n) (fx1 : ∀ d c n, fT1 d ≠ .exc c n) (hts : ∀ i ∈ ts, i ∈ slotsOf names) (hts1 : ∀ i ∈ ts1, i ∈ own1) (ho1 : ∀ i ∈ own1, i ∈ slotsOf names) (hE : ∀ t, EnvLe (cvE ρ (slotsOf names)) (pt t)) (hE1 : ∀ u w, EnvLe (pt u) (pt1 u w))
    (hn : ∀ u (i : Nat) k d, i ∈ own1 → (pt u)[i]? ≠ some (some (k, d))) (hno : ∀ u (i : Nat) k d, (pt u)[i]? = some (some (k, d)) → DL.own k = false) (rest : ∀ d, DB X C E kr (ρ.set i (some (.ow, d))) ss po pk (f d))
    (hin : i < ρ.length := by exact Nat.le_of_ble_eq_true rfl) (hy : X.N[i]? = some y := by rfl) (hyl : X.env.scope.names.lookup y = some .local := by rfl)
    (hsw : swapsWith (.ListComp elt [⟨tg, iter, ifs, 0⟩, ⟨tg1, iter1, ifs1, 0⟩] scope pos) (some (.Name y py)) spos.line X.env = pure true := by exact sw_true rfl rfl rfl (by decide +kernel)) (hs : ∀ x, foldedSetIterable iter X.env x = pure x := by intro _; rfl) (hs1 : ∀ env x, foldedSetIterable iter1 env x = pure x := by intro _ _; rfl) :
    DB X C E kr ρ (.Assign [.Name y py] (.ListComp elt [⟨tg, iter, ifs, 0⟩, ⟨tg1, iter1, ifs1, 0⟩] scope pos) spos :: ss) po pk (lcR2 rl (fun d => fT d >>= fun u => lc2F (rt u) (rl1 u) (fun d1 => fT1 d1 >>= fun w => lcF (rt1 u w) (re u w))) >>= f) :=
  PSs_imp (pss_cons (ps_setLc2 (vs1 := own1) (wi := tI X.K X.mg C E ρ true b rl) (g := gR X.K C b (cvE ρ (slotsOf names)) ts fT pt) (tt := tR X.K X.mg C pt rt) (wi1 := iR1 X.K X.mg C b1 pt rl1) (g1 := gR1 X.K C b1 pt ts1 fT1 pt1) (tt1 := tR1 X.K X.mg C pt1 rt1) (te := eR1 X.K X.mg C true pt1 re) hc nd hy hyl hsw hi ok ho1 (fun s H A cl fp => hg s H A cl fp) (fun s H A cl fp => PTs_ex (ht s H A cl fp)) (fun s H A cl fp => PI_ex (hi1 s H A cl fp)) (fun s H A cl fp => PG_ex (hg1 s H A cl fp)) (fun s H A cl fp => PTs_ex fun u => PTs_ex (ht1 s H A cl fp u)) (fun s H A cl fp => PE_ex fun u => PE_ex (he s H A cl fp u)) hs hs1) (PSs_ex rest)) fun Z σ H ⟨F, B, R, p⟩ => by
    unfold tSeq tAsg
    refine lc2_rd (t := true) (E := E) hts hts1 ho1 fx fx1 hE hE1 hn hno ⟨F, B, R, Res.post_mono (Res.post_bind p) fun d _ pd => fun F1 B1 H1 v x r => ?_⟩
    exact ⟨d, F1, B1, R.store x rfl hin r, flMono x.f x.b pd⟩
end
end DL

/-! DL10: defs, calls, the law -/
namespace DL
open PySem PySem.Spec L2
open PyProof.Rows hiding St

/-! ### defs that may ask repr: no guard stands -/
def RoomG (k : Nat) (A : Around) : Prop := Room k A ∧ A.guards = some []
theorem RoomG.mono {j k : Nat} {A : Around} (r : RoomG k A) (h : j ≤ k) : RoomG j A := ⟨r.1.mono h, r.2⟩
structure FG (P : Program) (w : World) (K : PySem.W.Frag) (mg : Str → Option Value) (base : Heap) (k : Nat) (f : Addr) (fd : FuncData) (ps : List Str) (sp : Sp) : Prop where
  len : ∀ vs H Q E, sp vs H Q E → vs.length = ps.length
  run : ∀ (A : Around) (outer : List PySem.Env) (s : Shared) (H : Hp) (args : Args) (us : List Value) (vs : List V) (Q : VK) (E : XK), RoomG k A → Env0 P w K mg base A outer s H → BindsTo s fd args (ps.zip us) → Vals vs us → sp vs H Q E →
    codeAny (model P w) A (.call (.ref f) args) (CR (L2.CX P w) outer P w H s Q E) s
theorem FG.mono {P : Program} {w : World} {K : PySem.W.Frag} {mg : Str → Option Value} {base : Heap} {j k : Nat} {f : Addr} {fd : FuncData} {ps : List Str} {sp : Sp} (F : FG P w K mg base j f fd ps sp) (h : j ≤ k) : FG P w K mg base k f fd ps sp :=
  ⟨F.len, fun A outer s H args us vs Q E hr => F.run A outer s H args us vs Q E (hr.mono h)⟩
section
variable {X : Cx} {k : Nat} {f : Addr} {fd : FuncData} {ps : List Str} {sp : Sp} {E : XK} {x : Str} {p pos : Pos} {e : Expr} {es : List Expr} {t : TA}
theorem run_g {pins : List (Addr × Obj)} {σ : L2.St} {H : Hp} {s : Shared} {Q : VK} {us : List Value} {vs : List V} (F : FG X.prog X.w X.K X.mg X.base k f fd ps sp) (hr : RoomG k X.A) (hb : Binds X.K fd ps []) (hx : Passes (L2.CX X.prog X.w) X E)
    (I : Inv X pins σ H s) (r : Vals vs us) (h : sp vs H Q E) : wpAny (model X.prog X.w) X.A (call (.ref f) us) (EP X pins σ Q) X.xe s := by
  have hl : us.length = ps.length := by rw [← r.length]; exact F.len _ _ _ _ h
  have b := hb s us I.kIn (by rw [List.append_nil]; exact hl)
  rw [List.append_nil] at b
  refine wpAny_call (codeAny_mono (F.run X.A X.stack s H ⟨us, []⟩ us vs Q E hr I.env0 b r h) fun r s' hq => ?_)
  cases r with
  | error e => exact hx pins σ H s e s' I hq
  | ok fl =>
    cases fl with
    | ret u => exact I.after hq
    | next => exact hq.elim
    | brk => exact hq.elim
    | cont => exact hq.elim
theorem pe_g (F : FG X.prog X.w X.K X.mg X.base k f fd ps sp) (hr : RoomG k X.A) (hg : Gl X x) (hm : X.mg x = some (.ref f)) (hk : PySem.W.keepIn X.K (.ref f) = true) (hb : Binds X.K fd ps []) (hx : Passes (L2.CX X.prog X.w) X E)
    (ha : PA X (e :: es) t) (hdb : (x == ("__debug__" : Str)) = false := by decide) (he : starEach (e :: es) X.env = (false, eval e X.env) :: starEach es X.env := by rfl) (hpl : (backTo pos (starEach es X.env)).any (·.1) = false := by rfl) :
    PE X (.Call (.Name x p) (e :: es) [] pos) (tCall sp [] E t) := by
  refine ⟨fun pins s σ H Q I h => ?_⟩
  refine wpAny_Call_Name_kw (ld_glob I hg hm ?_ hdb)
  refine PySem.W.callWith_K (h₀ := X.base) I.ok.mod.kin hk (thn (ha.run pos pins s σ H _ I h) fun us s1 ⟨vs, H1, I1, r, q⟩ => ⟨I1.kIn, ?_⟩) he hpl
  have q' : sp (vs ++ []) H1 Q E := q
  rw [List.append_nil] at q'
  exact run_g F hr hb hx I1 r q'
theorem pe_g0 (F : FG X.prog X.w X.K X.mg X.base k f fd ps sp) (hr : RoomG k X.A) (hg : Gl X x) (hm : X.mg x = some (.ref f)) (hk : PySem.W.keepIn X.K (.ref f) = true) (hb : Binds X.K fd ps []) (hx : Passes (L2.CX X.prog X.w) X E)
    (hdb : (x == ("__debug__" : Str)) = false := by decide) : PE X (.Call (.Name x p) [] [] pos) (tCall sp [] E tNil) := by
  refine ⟨fun pins s σ H Q I h => ?_⟩
  refine wpAny_Call_Name_kw (ld_glob I hg hm ?_ hdb)
  exact PySem.W.callWith_K0 I.kIn hk (run_g (us := []) F hr hb hx I .nil h)
end
/-- a def by its body -/
theorem fn_g {P : Program} {w : World} {K : PySem.W.Frag} {mg : Str → Option Value} {base : Heap} {x qual : Str} {st : Stmt} {f : Addr} {fd : FuncData} {N ps : List Str} {k : Nat} {sp : Sp} (F : Fun K x qual st f fd) (S : FnScope N ps (defScope st)) (len : ∀ vs H Q E, sp vs H Q E → vs.length = ps.length)
    (hbody : ∀ (cdv : Value) (A : Around) (outer : List PySem.Env) (s : Shared) (H : Hp) (vs : List V) (Q : VK) (E : XK), RoomG k (A.deeper (envOfC qual (defScope st) s.heap.objs.size f cdv)) → sp vs H Q E →
      ∃ t, PSs (cxOf (L2.CX P w) P w K mg base N qual (defScope st) f cdv A outer s H E) (defBody st) t ∧ t { nx := fun _ H' => Q .non H', rt := Q } (L2.start N vs) H) : FG P w K mg base (k + 1) f fd ps sp := by
  obtain ⟨oc, od, kV, doc, pm, an, cdv, ct, osl, rfl, lk, hcd⟩ := F.ex
  refine ⟨len, fun A outer s H args us vs Q E hr e0 hb r hsp => ?_⟩
  have keep : ∀ b o, base.get? b = some o → s.heap.get? b = some o := fun b o e => (e0.bs b o e).1
  have kx : K.In s.heap := e0.mod.kin.keeps keep
  have hkind : ∀ y ∈ ps.zip us, (defScope st).names.lookup y.1 = some .local ∨ ((defScope st).names.lookup y.1 = some .cell ∧ ((cellsFrom (s.heap.objs.size + 1) (defScope st).names []).lookup y.1).isSome = true) := fun y hy =>
    (S.par y.1 (List.of_mem_zip (a := y.1) (b := y.2) hy).1).imp id fun q => ⟨q, PySem.W.cellsFrom_some _ _ _ (.inl q)⟩
  refine codeAny_call_function hr.1.depth (kx _ _ lk) rfl S.co S.gen rfl (PySem.W.codeRec_of kx hcd) (hb _ _ _ _ (wpAny_newFunctionEnv_cells S.kind hkind fun env he s1 z => ?_))
  subst he
  refine ⟨(e0.mod.nolimit.keeps keep).keeps z.toInCall.keep, codeAny_func ?_⟩
  obtain ⟨t, ht, hq⟩ := hbody cdv A outer s H vs Q E ⟨hr.1.deeper _, hr.2⟩ hsp
  have I : Inv (cxOf (L2.CX P w) P w K mg base N qual (defScope st) f cdv A outer s H E) [] (L2.start N vs) H s1 := inv_start S hr.1.hd e0 (len _ _ _ _ hsp) r z
  refine wpAny_mono (ht.run [] s1 (L2.start N vs) H _ I hq) (fun fl s' hs => ?_) fun e s' hs => hs
  cases fl with
  | ret u =>
    obtain ⟨v, σ', H', J, rv, q⟩ := hs
    exact ⟨v, H', J.os, J.bare, J.base, J.hok, rv, q⟩
  | next =>
    obtain ⟨σ', H', J, q⟩ := hs
    exact ⟨V.non, H', J.os, J.bare, J.base, J.hok, rfl, q⟩
  | brk =>
    obtain ⟨_, _, _, q⟩ := hs
    exact q.elim
  | cont =>
    obtain ⟨_, _, _, q⟩ := hs
    exact q.elim

inductive RepXs (K : PySem.W.Frag) (P F B H : Hp) : List Kd → List V → List D → Prop
  | nil : RepXs K P F B H [] [] []
  | cons {k : Kd} {v : V} {d : D} {ks : List Kd} {vs : List V} {ds : List D} : RepX K P F B H k v d → RepXs K P F B H ks vs ds → RepXs K P F B H (k :: ks) (v :: vs) (d :: ds)
theorem RepXs.ext {K : PySem.W.Frag} {P F B H F' B' H' : Hp} (x : Ext F B H F' B' H') {ks : List Kd} {vs : List V} {ds : List D} (r : RepXs K P F B H ks vs ds) : RepXs K P F' B' H' ks vs ds := by
  induction r with
  | nil => exact .nil
  | cons h _ ih => exact .cons (h.ext x) ih
theorem RepXs.back {K : PySem.W.Frag} {P P' F B H : Hp} (h : Same P P') {ks : List Kd} {vs : List V} {ds : List D} (r : RepXs K P' F B H ks vs ds) : RepXs K P F B H ks vs ds := by
  induction r with
  | nil => exact .nil
  | cons q _ ih => exact .cons (q.back h) ih
theorem RepXs.len {K : PySem.W.Frag} {P F B H : Hp} {ks : List Kd} {vs : List V} {ds : List D} (r : RepXs K P F B H ks vs ds) : vs.length = ks.length ∧ ds.length = ks.length := by
  induction r with
  | nil => exact ⟨rfl, rfl⟩
  | cons _ _ ih => simp only [List.length_cons, ih.1, ih.2, and_self]

/-- a def's promise over data: fl its parameters' kinds (sh, bo, kx), rk its result's (sh, ow), m its mirror -/
def spD (K : PySem.W.Frag) (mg : Str → Option Value) (fl : List Kd) (rk : Kd) (m : List D → Res D) : Sp := fun vs H Q E =>
  ∃ ds F, Same F H ∧ RepXs K H F H H fl vs ds ∧ (m ds).post (fun d => ∀ F' B' H' v, Bs ⟨H, F⟩ F' B' H' → RepX K H F' B' H' rk v d → Q v H') (EG mg ⟨H, F⟩ E)
/-- an argument of kind k may be handed to a parameter of kind p -/
def okA (p k : Kd) : Bool := match p with
  | .sh => k == .sh
  | .bo => noKx k
  | .kx => true
  | _ => false
def okAs : List Kd → List Kd → Bool
  | [], [] => true
  | p :: ps, k :: ks => okA p k && okAs ps ks
  | _, _ => false
theorem RepX.hand {K : PySem.W.Frag} {P P' F B H : Hp} (fb : Same F B) (bh : Same B H) {p k : Kd} (o : okA p k = true) {v : V} {d : D} (r : RepX K P F B H k v d) : RepX K P' F H H p v d := by
  cases p with
  | sh =>
    have e : k = .sh := by simpa [okA] using o
    subst e
    exact r
  | bo => exact r.viewR fb bh o
  | kx => exact r.view fb bh
  | vw => cases o
  | ow => cases o
  | owb => cases o
  | vs => cases o
theorem RepXs.hand {K : PySem.W.Frag} {P P' F B H : Hp} (fb : Same F B) (bh : Same B H) : ∀ {ps ks : List Kd} {vs : List V} {ds : List D}, okAs ps ks = true → RepXs K P F B H ks vs ds → RepXs K P' F H H ps vs ds
  | [], [], _, _, _, .nil => .nil
  | p :: ps, k :: ks, _, _, o, .cons h r => by
    have o' : okA p k = true ∧ okAs ps ks = true := by simpa [okAs] using o
    exact .cons (h.hand fb bh o'.1) (RepXs.hand fb bh o'.2 r)
  | [], _ :: _, _, _, o, _ => by cases o
  | _ :: _, [], _, _, o, _ => by cases o

section
variable {X : Cx} {C : Gd} {E : XK} {ρ : Env} {pos : Pos}
/-- arguments, each of its kind -/
def DA (X : Cx) (C : Gd) (E : XK) (ρ : Env) (es : List Expr) (ks : List Kd) (r : Res (List D)) : Prop :=
  PA X es (fun σ H Q => ∃ F B, Rel X.K C ρ F B σ H ∧ r.post (fun ds => ∀ F' B' H' vs, Ext F B H F' B' H' → RepXs X.K H F' B' H' ks vs ds → Q vs H') (EG X.mg C E))
theorem da_nil : DA X C E ρ [] [] (.ok []) := PA_imp pa_nil fun σ H Q ⟨F, B, R, p⟩ => p _ _ _ _ R.ext0 .nil
theorem da_cons {e : Expr} {es : List Expr} {k : Kd} {ks : List Kd} {re : Res D} {rs : Res (List D)} (ha : DE X C E ρ e k re) (hs : DA X C E ρ es ks rs) (he : starEach (e :: es) X.env = (false, eval e X.env) :: starEach es X.env := by rfl) :
    DA X C E ρ (e :: es) (k :: ks) (re >>= fun d => rs >>= fun ds => .ok (d :: ds)) :=
  PA_imp (pa_cons ha hs he) fun σ H Q ⟨F, B, R, p⟩ => ⟨F, B, R, Res.post_mono (Res.post_bind p) fun d _ pd => fun F1 B1 H1 v x r =>
    ⟨F1, B1, R.ext x, Res.post_mono (Res.post_bind pd) fun ds _ pds => fun F2 B2 H2 vs x2 rs => pds F2 B2 H2 _ (x.trans x2) (.cons (r.ext x2) (rs.back x.h))⟩⟩
theorem EG.up {mg : Str → Option Value} {H F : Hp} {c : Str} {n : Int} (h : Same C.H0 H) (g : EG mg C E c n) : EG mg ⟨H, F⟩ E c n := fun ca e H' dx s f q => g ca e H' dx (h.trans s) (h.free f) q
/-- a result's kinds -/
def retK : Kd → Bool
  | .sh => true
  | .ow => true
  | _ => false
/-- the promise of a callee, from what is known of its mirror -/
theorem sp_of {fl ks : List Kd} {rk : Kd} {m : List D → Res D} {F B H P : Hp} {σ : L2.St} {vs : List V} {ds : List D} {Q : VK} (R : Rel X.K C ρ F B σ H) (o : okAs fl ks = true) (r : RepXs X.K P F B H ks vs ds) (p : (m ds).post (PP X.K rk Q F B H) (EG X.mg C E)) (hk : retK rk = true := by rfl) :
    spD X.K X.mg fl rk m vs H Q E := by
  refine ⟨ds, F, R.fb.trans R.bh, r.hand R.fb R.bh o, ?_⟩
  have R0 := R.h0.trans R.bh
  cases q : m ds with
  | ok d =>
    rw [q] at p
    intro F' B' H' v b rd
    -- both frozen parts put together
    have hh : Same H H' := b.h0.trans b.bh
    have fh := (R.fb.trans R.bh).trans hh
    have f'h := b.fb.trans b.bh
    have x : Ext F B H (mrg F F') (mrg B (mrg F F')) H' := Ext.outc R.fb R.bh hh (mrg_l F F') (mrg_sub fh f'h) fun a o e => by
      rcases mrg_inv e with z | ⟨_, z⟩
      · exact .inl z
      · exact b.fr a o z
    have up : Same F' (mrg F F') := mrg_r fh f'h
    refine p _ _ _ v x ?_
    cases rk with
    | sh => exact Rp.mono up d v rd
    | ow =>
      obtain ⟨a, xs, ds', rfl, rfl, h1, h2, h4, h3⟩ := rd
      refine ⟨a, xs, ds', rfl, rfl, h1, ?_, h4, RpAll.mono up ds' xs h3⟩
      cases z : mrg B (mrg F F') a with
      | none => rfl
      | some u =>
        rcases mrg_inv z with w | ⟨_, w⟩
        · have := R.bh _ _ w; rw [h4] at this; cases this
        · rcases mrg_inv w with w | ⟨_, w⟩
          · have := (R.fb.trans R.bh) _ _ w; rw [h4] at this; cases this
          · have := b.fb _ _ w; rw [h2] at this; cases this
    | _ => cases hk
  | exc c n =>
    rw [q] at p
    exact EG.up R0 p
  | stuck => rw [q] at p; exact p.elim
/-- a call of a def -/
theorem de_call {fl ks : List Kd} {rk : Kd} {m : List D → Res D} {lev : Nat} {f : Addr} {fd : FuncData} {ps : List Str} {x : Str} {p : Pos} {e : Expr} {es : List Expr} {rs : Res (List D)}
    (G : FG X.prog X.w X.K X.mg X.base lev f fd ps (spD X.K X.mg fl rk m)) (hr : RoomG lev X.A) (hm : X.mg x = some (.ref f)) (hk : PySem.W.keepIn X.K (.ref f) = true) (hb : Binds X.K fd ps []) (hx : Passes (L2.CX X.prog X.w) X E)
    (ha : DA X C E ρ (e :: es) ks rs) (o : okAs fl ks = true := by rfl) (hk2 : retK rk = true := by rfl) (hg : Gl X x := by rfl) (hdb : (x == ("__debug__" : Str)) = false := by decide)
    (he : starEach (e :: es) X.env = (false, eval e X.env) :: starEach es X.env := by rfl) (hpl : (backTo pos (starEach es X.env)).any (·.1) = false := by rfl) : DE X C E ρ (.Call (.Name x p) (e :: es) [] pos) rk (rs >>= m) :=
  PE_imp (pe_g G hr hg hm hk hb hx ha hdb he hpl) fun σ H Q ⟨F, B, R, p⟩ => ⟨F, B, R, Res.post_mono (Res.post_bind p) fun ds _ pd => fun F1 B1 H1 vs x r => by
    show spD X.K X.mg fl rk m (vs ++ []) H1 Q E
    rw [List.append_nil]
    exact sp_of (R.ext x) o r (Res.post_mono pd fun d _ z => z.mono x) hk2⟩
theorem de_call0 {rk : Kd} {m : List D → Res D} {lev : Nat} {f : Addr} {fd : FuncData} {x : Str} {p : Pos}
    (G : FG X.prog X.w X.K X.mg X.base lev f fd [] (spD X.K X.mg [] rk m)) (hr : RoomG lev X.A) (hm : X.mg x = some (.ref f)) (hk : PySem.W.keepIn X.K (.ref f) = true) (hb : Binds X.K fd [] []) (hx : Passes (L2.CX X.prog X.w) X E)
    (hk2 : retK rk = true := by rfl) (hg : Gl X x := by rfl) (hdb : (x == ("__debug__" : Str)) = false := by decide) : DE X C E ρ (.Call (.Name x p) [] [] pos) rk (m []) :=
  PE_imp (pe_g0 G hr hg hm hk hb hx hdb) fun σ H Q ⟨F, B, R, p⟩ => by
    show spD X.K X.mg [] rk m ([] ++ []) H Q E
    exact sp_of R (ks := []) rfl (P := H) .nil p hk2
end

/-! ### a def -/
/-- the cells at a def's entry -/
def startE : List Kd → List D → Env
  | k :: ks, d :: ds => some (k, d) :: startE ks ds
  | _, _ => []
theorem RepXs.cells {K : PySem.W.Frag} {H F : Hp} {fl : List Kd} {vs : List V} {ds : List D} (r : RepXs K H F H H fl vs ds) : fl.all (fun k => k == .sh || k == .bo || k == .kx) = true → ∀ (i : Nat) k d, (startE fl ds)[i]? = some (some (k, d)) → own k = false ∧ ∃ v, vs[i]? = some v ∧ RepC K F H H k v d := by
  induction r with
  | nil => intro _ i k d e; simp [startE] at e
  | cons h r ih =>
    rename_i k0 v0 d0 ks vs ds
    intro a i k d e
    simp only [List.all_cons, Bool.and_eq_true] at a
    cases i with
    | zero =>
      simp only [startE, List.getElem?_cons_zero, Option.some.injEq, Prod.mk.injEq] at e
      obtain ⟨rfl, rfl⟩ := e
      cases k0 with
      | sh => exact ⟨rfl, _, rfl, h⟩
      | bo => exact ⟨rfl, _, rfl, h⟩
      | kx => exact ⟨rfl, _, rfl, h⟩
      | vw => cases a.1
      | ow => cases a.1
      | owb => cases a.1
      | vs => cases a.1
    | succ i =>
      obtain ⟨o, v, h1, h2⟩ := ih a.2 i k d (by simpa [startE] using e)
      exact ⟨o, v, by simpa using h1, h2⟩
theorem startE_len : ∀ {fl : List Kd} {ds : List D}, ds.length = fl.length → (startE fl ds).length = fl.length
  | [], [], _ => rfl
  | [], _ :: _, h => by cases h
  | _ :: _, [], h => by cases h
  | _ :: fl, _ :: ds, h => by
    simp only [startE, List.length_cons, Nat.add_right_cancel_iff] at h ⊢
    exact startE_len h
theorem rel_start {K : PySem.W.Frag} {H F : Hp} {fl : List Kd} {vs : List V} {ds : List D} {N : List Str} (a : fl.all (fun k => k == .sh || k == .bo || k == .kx) = true) (fh : Same F H) (r : RepXs K H F H H fl vs ds) (hl : fl.length ≤ N.length) :
    Rel K ⟨H, F⟩ (startE fl ds ++ List.replicate (N.length - fl.length) none) F H (L2.start N vs) H := by
  have l1 := r.len.1
  have l2 := startE_len r.len.2
  have low : ∀ (i : Nat) k d, (startE fl ds ++ List.replicate (N.length - fl.length) none)[i]? = some (some (k, d)) → (startE fl ds)[i]? = some (some (k, d)) ∧ i < fl.length := fun i k d e => by
    by_cases hi : i < (startE fl ds).length
    · rw [List.getElem?_append_left hi] at e
      exact ⟨e, by rw [← l2]; exact hi⟩
    · rw [List.getElem?_append_right (by omega)] at e
      rw [List.getElem?_replicate] at e
      split at e <;> cases e
  refine ⟨fh, .refl _, .refl _, fun a o e => .inl e, ?_, fun i k d e => ?_, fun i j ki kj di dj ne oi oj ei ej => ?_⟩
  · unfold L2.start
    rw [List.length_append, List.length_append, List.length_map, List.length_replicate, List.length_replicate, l2, l1]
  · obtain ⟨e1, hi⟩ := low i k d e
    obtain ⟨o, v, h1, h2⟩ := r.cells a i k d e1
    refine ⟨v, ?_, h2⟩
    unfold L2.start
    rw [List.getElem?_append_left (by rw [List.length_map, l1]; exact hi), List.getElem?_map, h1]
    rfl
  · obtain ⟨e1, _⟩ := low i ki di ei
    have := (r.cells a i ki di e1).1
    rw [oi] at this
    cases this
/-- what a def's body gives its caller -/
def fnR (rk : Kd) (r : Res (Fl Unit Empty)) : Res D := r >>= fun fl => match fl with
  | .nx _ => if rk == .sh then .ok .none else .stuck
  | .rt d => .ok d
  | .bk l => nomatch l
section
variable {P : Program} {w : World} {K : PySem.W.Frag} {mg : Str → Option Value} {base : Heap}
/-- THE RULE for a def over data -/
theorem fn_d {x qual : Str} {st : Stmt} {f : Addr} {fd : FuncData} {N ps : List Str} {lev : Nat} {fl : List Kd} {rk : Kd} {m : List D → Res D} {po : Unit → Env} {pk : Empty → Env} {r : List D → Res (Fl Unit Empty)}
    (Fn : Fun K x qual st f fd) (S : FnScope N ps (defScope st)) (hn : fl.length = ps.length := by rfl) (hl : fl.length ≤ N.length := by decide) (ha : fl.all (fun k => k == .sh || k == .bo || k == .kx) = true := by rfl)
    (body : ∀ (cdv : Value) (A : Around) (outer : List PySem.Env) (s : Shared) (H F : Hp) (E : XK) (ds : List D), ds.length = ps.length → RoomG lev (A.deeper (envOfC qual (defScope st) s.heap.objs.size f cdv)) →
      DB (cxOf (L2.CX P w) P w K mg base N qual (defScope st) f cdv A outer s H E) ⟨H, F⟩ E rk (startE fl ds ++ List.replicate (N.length - fl.length) none) (defBody st) po pk (r ds))
    (hm : ∀ ds, ds.length = ps.length → m ds = fnR rk (r ds)) : FG P w K mg base (lev + 1) f fd ps (spD K mg fl rk m) := by
  refine fn_g Fn S (fun vs H Q E h => ?_) (fun cdv A outer s H vs Q E hr h => ?_)
  · obtain ⟨ds, F, fh, re, _⟩ := h
    rw [re.len.1, hn]
  · obtain ⟨ds, F, fh, re, p⟩ := h
    have hd : ds.length = ps.length := by rw [re.len.2, hn]
    refine ⟨_, body cdv A outer s H F E ds hd hr, F, H, rel_start ha fh re hl, ?_⟩
    rw [hm ds hd] at p
    refine Res.post_mono (Res.post_bind p) fun fl _ pf => ?_
    cases fl with
    | nx u =>
      intro F' B' H' σ' _ _ R'
      cases q : (rk == .sh) with
      | true =>
        simp only [q, if_true] at pf
        have e : rk = .sh := by simpa using q
        subst e
        exact pf F' B' H' .non R'.bs .non
      | false =>
        simp only [q, Bool.false_eq_true, if_false] at pf
        exact pf.elim
    | rt d => exact fun F' B' H' v b rd => pf F' B' H' v b rd
    | bk l => exact nomatch l
/-- the law's own end: its mirror gives True -/
theorem law_sp {H : Hp} {a : Addr} {ns : List Int} {m : List D → Res D} (hS : SqL K H a (ns.map V.int)) (h : m [.list (ns.map .int)] = .ok (.bool true)) : spD K mg [.kx] .sh m [.ref a] H (fun v _ => v = .bl true) (fun _ _ _ => False) := by
  have all : ∀ l : List Int, DpAll K H (l.map V.int) (l.map .int) := fun l => by
    induction l with
    | nil => exact .nil
    | cons x r ih => exact .cons (.int x) ih
  refine ⟨[.list (ns.map .int)], fun _ => none, fun _ _ e => (by cases e), .cons (.lst hS (all ns)) .nil, ?_⟩
  rw [h]
  exact fun F' B' H' v _ r => Rp.bool_inv r
end

/-! ### the law is called -/
/-- the script alone is known -/
theorem script_hp {P : Program} {w : World} {K : PySem.W.Frag} {h : Heap} {a : Addr} {vs : List Value} {ns : List Int} (KX : K.In h) (ha : h.get? a = some { cls := .type "list", data := .seq vs.toArray }) (hi : IntsAre vs ns) (hl : ns.length ≤ sizeLine) :
    ∃ H : Hp, SqL K H a (ns.map V.int) ∧ HOk P w H h ∧ (∀ b, H b ≠ none → b = a ∧ K.lookup a = none) ∧ ∀ b, H b = none ∨ ∃ ob xs, H b = some (.frz ob (.lst xs)) := by
  have rv := vals_ints hi
  cases hk : K.lookup a with
  | some o =>
    have e := KX a o hk
    rw [ha] at e
    cases e
    exact ⟨fun _ => none, .inr ⟨_, vs.toArray, _, hk, rfl, rfl, rfl, by rw [List.size_toArray, hi.length]; exact hl, by simpa using rv⟩, fun b u z => (by have z' : (none : Option HO) = some u := z; cases z'), fun b z => absurd rfl z, fun _ => .inl rfl⟩
  | none =>
    have look : ∀ b u, (if b = a then some (HO.frz { cls := .type "list", data := .seq vs.toArray } (.lst (ns.map V.int))) else none) = some u → b = a ∧ u = .frz { cls := .type "list", data := .seq vs.toArray } (.lst (ns.map V.int)) := fun b u z => by
      split at z
      · rename_i q; cases z; exact ⟨q, rfl⟩
      · cases z
    refine ⟨fun b => if b = a then some (.frz { cls := .type "list", data := .seq vs.toArray } (.lst (ns.map V.int))) else none, .inl (.inr ⟨_, if_pos rfl⟩), fun b u z => ?_, fun b z => ?_, fun b => ?_⟩
    · obtain ⟨rfl, rfl⟩ := look b u z
      exact ⟨ha, by rw [List.length_map]; exact hl, vs, _, rv, ha⟩
    · refine ⟨?_, rfl⟩
      by_cases q : b = a
      · exact q
      · exact absurd (if_neg q) z
    · by_cases q : b = a
      · exact .inr ⟨_, _, if_pos q⟩
      · exact .inl (if_neg q)
theorem law_g {P : Program} {w : World} {K : PySem.W.Frag} {mg mb : Str → Option Value} {k : Nat} {fa a : Addr} {fd : FuncData} {x : Str} {sp : Sp} {s₁ : Shared} {vs : List Value} {ns : List Int}
    (KX : K.In s₁.heap) (hns : s₁.heap.Ns mainGlobals mg) (hb : s₁.heap.Ns builtinsNs mb) (hbb : ∀ x : Str, x ≠ "__name__" → mb x = bootBuiltins x) (hlim : s₁.heap.NoLimit) (hg : s₁.gens = #[])
    (ha : s₁.heap.get? a = some { cls := .type "list", data := .seq vs.toArray }) (hi : IntsAre vs ns) (hl : ns.length ≤ sizeLine) (hr : Room k callerA)
    (F : ∀ base : Heap, K.In base → base.Ns mainGlobals mg → FG P w K mg base k fa fd [x] sp) (hbind : ∀ (s : Shared) (u : Value), BindsTo s fd ⟨[u], []⟩ [(x, u)])
    (hsp : ∀ H : Hp, SqL K H a (ns.map V.int) → sp [.ref a] H (fun v _ => v = .bl true) fun _ _ _ => False) (hCX : ∀ H e s', L2.CX P w [] H s₁ (fun _ _ _ => False) e s' → False) :
    codeAny (model P w) callerA (.call (.ref fa) ⟨[.ref a], []⟩) (fun r s' => r = .ok (.ret (.bool true)) ∧ OldK s₁.heap s'.heap ∧ s'.os = s₁.os ∧ AllBare s'.gens) s₁ := by
  obtain ⟨H, hS, hok, hA, hO⟩ := script_hp (P := P) (w := w) KX ha hi hl
  have at_ : ∀ {b : Addr} {o : Obj}, s₁.heap.get? b = some o → (b = a → False) → (hidT s₁.heap H).get? b = some o := fun {b o} e n => hidT_get e (by
    cases q : H b with
    | none => rfl
    | some u => exact (n (hA b (by rw [q]; simp)).1).elim)
  have nsK : ∀ {b : Addr} {m : Str → Option Value}, s₁.heap.Ns b m → (hidT s₁.heap H).Ns b m := fun {b m} ⟨o, es, ep, e, d, r⟩ => ⟨o, es, ep, at_ e (fun z => by
    subst z
    rw [ha] at e
    cases e
    have d' : Data.seq vs.toArray _ = Data.dict es ep := d
    cases d'), d, r⟩
  have kIn : K.In (hidT s₁.heap H) := fun b o e => hidT_get (KX b o e) (by
    cases q : H b with
    | none => rfl
    | some u =>
      obtain ⟨rfl, z⟩ := hA b (by rw [q]; simp)
      rw [e] at z
      cases z)
  have hM : Mod K mg (hidT s₁.heap H) := ⟨kIn, nsK hns, ⟨mb, nsK hb, hbb⟩, let ⟨mc, h1, h2⟩ := hlim; ⟨mc, nsK h1, h2⟩⟩
  have e0 : Env0 P w K mg (hidT s₁.heap H) callerA [] s₁ H := ⟨rfl, hM, fun b o e => of_hidT e, Nat.le_of_eq (hidT_size _ _), trivial, fun b hb => absurd (show b ∈ ([] : List Addr) from hb) (by simp), hok, .of_eq hg⟩
  refine codeAny_mono ((F _ kIn (nsK hns)).run callerA [] s₁ H ⟨[.ref a], []⟩ [.ref a] [.ref a] _ _ ⟨hr, rfl⟩ e0 (hbind s₁ (.ref a)) (.cons rfl .nil) (hsp H hS)) fun r s' h => ?_
  cases r with
  | error e => exact (hCX H e s' h).elim
  | ok fl =>
    cases fl with
    | next => exact h.elim
    | brk => exact h.elim
    | cont => exact h.elim
    | ret u =>
      obtain ⟨v, H', os, bare, un, hok', r', q⟩ := h
      obtain rfl : v = .bl true := q
      obtain rfl : u = Value.bool true := r'
      refine ⟨rfl, OldK.of_keep fun b o e => ?_, os, bare⟩
      rcases hO b with z | ⟨ob, xs, z⟩
      · exact un.keep b o e z (by simp [frs]) (by simp)
      · have z2 := un.frzs b ob _ z
        obtain ⟨e1, _⟩ := hok b _ z
        obtain ⟨e2, _⟩ := hok' b _ z2
        rw [e] at e1
        cases e1
        exact e2
/-- the law's end: its mirror gives True at all scripts -/
theorem walk_g {l : PySem.W.OpenLaw} {n k : Nat} {q : Program} {loose : List Str} {XP : (Str → Option Value) → Heap → Prop} {YP : World → Heap → Prop} {d : DefRec} {K : Params → PySem.W.Frag} {x : Str} {m : List D → Res D}
    (hn : l.most = some n) (hn2 : n ≤ sizeLine) (hdf : d.params.defaults = []) (hr : Room k callerA)
    (hY : ∀ (w : World) (h : Heap), YP w h → (K w.params).In h)
    (F : ∀ (w : World) (mg : Str → Option Value) (fa : Addr) (h : Heap), (K w.params).In h → h.Ns mainGlobals mg → mg d.name = some (.ref fa) →
      ∃ fd : FuncData, (∀ (s : Shared) (u : Value), BindsTo s fd ⟨[u], []⟩ [(x, u)]) ∧
        ∀ base : Heap, (K w.params).In base → base.Ns mainGlobals mg → FG l.prog w (K w.params) mg base k fa fd [x] (spD (K w.params) mg [.kx] .sh m))
    (hm : ∀ ns : List Int, ns.length ≤ n → (∀ z ∈ ns, Builtin.Int.intBits z ≤ 1048576) → m [.list (ns.map .int)] = .ok (.bool true))
    (hCX : ∀ (w : World) (H : Hp) (s : Shared) (e : Value) (s' : Shared), L2.CX l.prog w [] H s (fun _ _ _ => False) e s' → False) :
    PySem.W.WalkO q loose XP YP l.row.toRowW d [] (fun f vs => PySem.call f vs) := by
  refine Att.attach_callB hn hdf fun w s₀ s₁ mg mb fa o pm cd doc a vs ns G Y ho hd hcd hmg hobj hints hlen hbits hg => ?_
  have KX := hY w _ Y
  obtain ⟨fd, hb, hF⟩ := F w mg fa _ KX G.T.g hmg
  exact law_g KX G.T.g G.T.b G.T.builtins G.T.nolimit hg hobj hints (Nat.le_trans hlen hn2) hr hF hb (fun H hS => law_sp hS (hm ns hlen hbits)) fun H e s' => hCX w H s₁ e s'
end DL

/-! DL11: built-in functions, methods of lists that give a value -/
namespace DL
open PySem PySem.Spec L2
open PyProof.Rows hiding St
open PySem.W (alike AlikeAll minD maxD dataLt min_list_data max_list_data readsAll_at alike_unique reads_keeps)

def atomV : D → Option V
  | .none => some .non
  | .bool b => some (.bl b)
  | .int i => some (.int i)
  | .str x => some (.str x)
  | _ => none
theorem atomV_rp {K : PySem.W.Frag} {F : Hp} {d : D} {u : V} (h : atomV d = some u) : Rp K F u d := by
  cases d <;> simp [atomV] at h <;> subst h <;> constructor

section
variable {X : Cx} {C : Gd} {E : XK} {ρ : Env} {e a b : Expr} {k ka kb : Kd} {re ra rb : Res D} {p pos : Pos}
/-- a call with one argument, a flat value -/
theorem de_c1 {call : Expr} {r : List V → Hp → VK → Prop} {f : D → Res D} (hp : PE X call (tCB r (tCons (tD X.K X.mg C E ρ k re) tNil)))
    (hk : ∀ d o, f d = .ok o → ∃ u, atomV o = some u ∧ ∀ (H : Hp) (v : V) (Q : VK), Dp X.K H v d → Q u H → r [v] H Q) (nx : ∀ d c n, f d ≠ .exc c n) : DE X C E ρ call .sh (re >>= f) :=
  PE_imp hp fun σ H Q ⟨F, B, R, p⟩ => tD1 (Z := PP X.K .sh Q) R p PP.mono fun d v F1 B1 H1 x1 R1 rx p1 => by
    show r [v] H1 Q
    cases q : f d with
    | ok o =>
      rw [q] at p1
      obtain ⟨u, hu, h⟩ := hk d o q
      exact h H1 v Q (rx.view R1.fb R1.bh) (fin_sh R1 p1 (atomV_rp hu))
    | exc c n => exact absurd q (nx d c n)
    | stuck => rw [q] at p1; exact p1.elim
/-- .. two arguments -/
theorem de_c2 {call : Expr} {r : List V → Hp → VK → Prop} {f : D → D → Res D} (hp : PE X call (tCB r (tCons (tD X.K X.mg C E ρ ka ra) (tCons (tD X.K X.mg C E ρ kb rb) tNil))))
    (hk : ∀ d d' o, f d d' = .ok o → ∃ u, atomV o = some u ∧ ∀ (H : Hp) (v v' : V) (Q : VK), Dp X.K H v d → Dp X.K H v' d' → Q u H → r [v, v'] H Q) (nx : ∀ d d' c n, f d d' ≠ .exc c n) : DE X C E ρ call .sh (ra >>= fun x => rb >>= fun y => f x y) :=
  PE_imp hp fun σ H Q ⟨F, B, R, p⟩ => tD1 (Z := PP X.K .sh Q) R p PP.mono fun d v F1 B1 H1 x1 R1 rx p1 => tD1 (Z := PP X.K .sh Q) R1 p1 PP.mono fun d' v' F2 B2 H2 x2 R2 ry p2 => by
    show r [v, v'] H2 Q
    cases q : f d d' with
    | ok o =>
      rw [q] at p2
      obtain ⟨u, hu, h⟩ := hk d d' o q
      exact h H2 v v' Q ((rx.ext x2).view R2.fb R2.bh) (ry.view R2.fb R2.bh) (fin_sh R2 p2 (atomV_rp hu))
    | exc c n => exact absurd q (nx d d' c n)
    | stuck => rw [q] at p2; exact p2.elim

/-! ### len, abs, int, bool -/
theorem de_len (hm : X.mg "len" = none) (ha : DE X C E ρ e k re) (hg : Gl X "len" := by rfl) (he : starEach [e] X.env = [(false, eval e X.env)] := by rfl) : DE X C E ρ (.Call (.Name "len" p) [e] [] pos) .sh (re >>= lenD) := by
  refine de_c1 (pe_callB call_len hg hm (by decide +kernel) (pa_cons ha pa_nil he) (he := he)) (fun d o h => ?_) fun d c n h => by unfold lenD at h; split at h <;> (try split at h) <;> cases h
  unfold lenD at h
  split at h
  · rename_i xs
    cases h
    refine ⟨_, rfl, fun H v Q hd q => ?_⟩
    obtain ⟨a, ys, rfl, h1, h2⟩ := Dp.list hd
    exact ⟨_, ys.length, rfl, .inl ⟨ys, h1, rfl⟩, by rw [DL.DpAll.length h2]; exact q⟩
  · rename_i xs
    cases h
    refine ⟨_, rfl, fun H v Q hd q => ?_⟩
    obtain ⟨a, ys, rfl, h1, h2⟩ := Dp.tuple hd
    exact ⟨_, ys.length, rfl, .inr ⟨ys, h1, rfl⟩, by rw [DL.DpAll.length h2]; exact q⟩
  · rename_i x
    split at h
    · rename_i hz
      cases h
      refine ⟨_, rfl, fun H v Q hd q => ?_⟩
      obtain rfl := Dp.str_inv hd
      exact ⟨_, x.length, rfl, ⟨hz, rfl⟩, q⟩
    · cases h
  · cases h
def absD : D → Res D
  | .int i => .ok (.int (if i < 0 then -i else i))
  | _ => .stuck
theorem de_abs (hm : X.mg "abs" = none) (ha : DE X C E ρ e k re) (hg : Gl X "abs" := by rfl) (he : starEach [e] X.env = [(false, eval e X.env)] := by rfl) : DE X C E ρ (.Call (.Name "abs" p) [e] [] pos) .sh (re >>= absD) := by
  refine de_c1 (pe_callB call_abs hg hm (by decide +kernel) (pa_cons ha pa_nil he) (he := he)) (fun d o h => ?_) fun d c n h => by unfold absD at h; split at h <;> cases h
  unfold absD at h
  split at h
  · cases h
    refine ⟨_, rfl, fun H v Q hd q => ?_⟩
    obtain rfl := Dp.int_inv hd
    exact ⟨_, rfl, q⟩
  · cases h
def intD : D → Res D
  | .int i => .ok (.int i)
  | .bool b => .ok (.int (if b then 1 else 0))
  | _ => .stuck
theorem de_int1 (hm : X.mg "int" = none) (ha : DE X C E ρ e k re) (hg : Gl X "int" := by rfl) (he : starEach [e] X.env = [(false, eval e X.env)] := by rfl) : DE X C E ρ (.Call (.Name "int" p) [e] [] pos) .sh (re >>= intD) := by
  refine de_c1 (pe_callTy call_int1 hg hm (by decide +kernel) (pa_cons ha pa_nil he) (he := he)) (fun d o h => ?_) fun d c n h => by unfold intD at h; split at h <;> cases h
  unfold intD at h
  split at h
  · cases h
    refine ⟨_, rfl, fun H v Q hd q => ?_⟩
    obtain rfl := Dp.int_inv hd
    exact .inl ⟨_, rfl, q⟩
  · cases h
    refine ⟨_, rfl, fun H v Q hd q => ?_⟩
    obtain rfl := Dp.bool_inv hd
    exact .inr ⟨_, rfl, q⟩
  · cases h
def min2D : D → D → Res D
  | .int i, .int j => .ok (.int (if j < i then j else i))
  | _, _ => .stuck
def max2D : D → D → Res D
  | .int i, .int j => .ok (.int (if j > i then j else i))
  | _, _ => .stuck
theorem de_min2 (hc : X.calm = true) (hm : X.mg "min" = none) (ha : DE X C E ρ a ka ra) (hb : DE X C E ρ b kb rb) (hg : Gl X "min" := by rfl) (he : starEach [a, b] X.env = (false, eval a X.env) :: starEach [b] X.env := by rfl) (he2 : starEach [b] X.env = [(false, eval b X.env)] := by rfl)
    (hpl : (backTo pos (starEach [b] X.env)).any (·.1) = false := by rfl) : DE X C E ρ (.Call (.Name "min" p) [a, b] [] pos) .sh (ra >>= fun x => rb >>= fun y => min2D x y) := by
  refine de_c2 (pe_callB (call_min2 hc) hg hm (by decide +kernel) (pa_cons ha (pa_cons hb pa_nil he2) he) (he := he) (hpl := hpl)) (fun d d' o h => ?_) fun d d' c n h => by unfold min2D at h; split at h <;> cases h
  unfold min2D at h
  split at h
  · cases h
    refine ⟨_, rfl, fun H v v' Q hd hd' q => ?_⟩
    obtain rfl := Dp.int_inv hd
    obtain rfl := Dp.int_inv hd'
    exact ⟨_, _, rfl, q⟩
  · cases h
theorem de_max2 (hc : X.calm = true) (hm : X.mg "max" = none) (ha : DE X C E ρ a ka ra) (hb : DE X C E ρ b kb rb) (hg : Gl X "max" := by rfl) (he : starEach [a, b] X.env = (false, eval a X.env) :: starEach [b] X.env := by rfl) (he2 : starEach [b] X.env = [(false, eval b X.env)] := by rfl)
    (hpl : (backTo pos (starEach [b] X.env)).any (·.1) = false := by rfl) : DE X C E ρ (.Call (.Name "max" p) [a, b] [] pos) .sh (ra >>= fun x => rb >>= fun y => max2D x y) := by
  refine de_c2 (pe_callB (call_max2 hc) hg hm (by decide +kernel) (pa_cons ha (pa_cons hb pa_nil he2) he) (he := he) (hpl := hpl)) (fun d d' o h => ?_) fun d d' c n h => by unfold max2D at h; split at h <;> cases h
  unfold max2D at h
  split at h
  · cases h
    refine ⟨_, rfl, fun H v v' Q hd hd' q => ?_⟩
    obtain rfl := Dp.int_inv hd
    obtain rfl := Dp.int_inv hd'
    exact ⟨_, _, rfl, q⟩
  · cases h

/-! ### sum, any, all -/
def intsOf : List D → Option (List Int)
  | [] => some []
  | .int i :: r => (intsOf r).map (i :: ·)
  | _ => none
def boolsOf : List D → Option (List Bool)
  | [] => some []
  | .bool i :: r => (boolsOf r).map (i :: ·)
  | _ => none
theorem intsOf_eq : ∀ {ds : List D} {ns : List Int}, intsOf ds = some ns → ds = ns.map .int
  | [], ns, h => by cases h; rfl
  | .int i :: r, ns, h => by
    obtain ⟨ms, h1, rfl⟩ := Option.map_eq_some_iff.mp h
    rw [intsOf_eq h1]
    rfl
  | .none :: _, _, h => by cases h
  | .bool _ :: _, _, h => by cases h
  | .str _ :: _, _, h => by cases h
  | .list _ :: _, _, h => by cases h
  | .tuple _ :: _, _, h => by cases h
  | .dict _ :: _, _, h => by cases h
@[simp] theorem intsOf_ints : ∀ ns : List Int, intsOf (ns.map .int) = some ns
  | [] => rfl
  | i :: r => by simp [intsOf, intsOf_ints r]
theorem boolsOf_eq : ∀ {ds : List D} {ns : List Bool}, boolsOf ds = some ns → ds = ns.map .bool
  | [], ns, h => by cases h; rfl
  | .bool i :: r, ns, h => by
    obtain ⟨ms, h1, rfl⟩ := Option.map_eq_some_iff.mp h
    rw [boolsOf_eq h1]
    rfl
  | .none :: _, _, h => by cases h
  | .int _ :: _, _, h => by cases h
  | .str _ :: _, _, h => by cases h
  | .list _ :: _, _, h => by cases h
  | .tuple _ :: _, _, h => by cases h
  | .dict _ :: _, _, h => by cases h
@[simp] theorem boolsOf_bools : ∀ ns : List Bool, boolsOf (ns.map .bool) = some ns
  | [] => rfl
  | i :: r => by simp [boolsOf, boolsOf_bools r]
theorem dp_ints {K : PySem.W.Frag} {H : Hp} : ∀ {ns : List Int} {vs : List V}, DpAll K H vs (ns.map .int) → vs = ns.map V.int
  | [], _, h => by cases h; rfl
  | i :: r, _, h => by
    cases h with
    | cons h1 h2 => rw [Dp.int_inv h1, dp_ints h2]; rfl
theorem dp_bools {K : PySem.W.Frag} {H : Hp} : ∀ {ns : List Bool} {vs : List V}, DpAll K H vs (ns.map .bool) → vs = ns.map V.bl
  | [], _, h => by cases h; rfl
  | i :: r, _, h => by
    cases h with
    | cons h1 h2 => rw [Dp.bool_inv h1, dp_bools h2]; rfl
def sumD : D → Res D
  | .list ds => match intsOf ds with
    | some ns => .ok (.int ns.sum)
    | none => .stuck
  | _ => .stuck
def anyD : D → Res D
  | .list ds => match boolsOf ds with
    | some ns => .ok (.bool (ns.any id))
    | none => .stuck
  | _ => .stuck
def allD : D → Res D
  | .list ds => match boolsOf ds with
    | some ns => .ok (.bool (ns.all id))
    | none => .stuck
  | _ => .stuck
theorem de_sum (hc : X.calm = true) (hm : X.mg "sum" = none) (ha : DE X C E ρ e k re) (hg : Gl X "sum" := by rfl) (he : starEach [e] X.env = [(false, eval e X.env)] := by rfl) : DE X C E ρ (.Call (.Name "sum" p) [e] [] pos) .sh (re >>= sumD) := by
  refine de_c1 (pe_callB (cr_sum hc) hg hm (by decide +kernel) (pa_cons ha pa_nil he) (he := he)) (fun d o h => ?_) fun d c n h => by unfold sumD at h; split at h <;> (try split at h) <;> cases h
  unfold sumD at h
  split at h
  · split at h
    · rename_i ds ns hn
      cases h
      refine ⟨_, rfl, fun H v Q hd q => ?_⟩
      obtain rfl := intsOf_eq hn
      obtain ⟨a, ys, rfl, h1, h2⟩ := Dp.list hd
      obtain rfl := dp_ints h2
      exact ⟨a, ns, rfl, h1, q⟩
    · cases h
  · cases h
theorem de_any (hc : X.calm = true) (hm : X.mg "any" = none) (ha : DE X C E ρ e k re) (hg : Gl X "any" := by rfl) (he : starEach [e] X.env = [(false, eval e X.env)] := by rfl) : DE X C E ρ (.Call (.Name "any" p) [e] [] pos) .sh (re >>= anyD) := by
  refine de_c1 (pe_callB (cr_any hc) hg hm (by decide +kernel) (pa_cons ha pa_nil he) (he := he)) (fun d o h => ?_) fun d c n h => by unfold anyD at h; split at h <;> (try split at h) <;> cases h
  unfold anyD at h
  split at h
  · split at h
    · rename_i ds ns hn
      cases h
      refine ⟨_, rfl, fun H v Q hd q => ?_⟩
      obtain rfl := boolsOf_eq hn
      obtain ⟨a, ys, rfl, h1, h2⟩ := Dp.list hd
      obtain rfl := dp_bools h2
      exact ⟨a, ns, rfl, h1, q⟩
    · cases h
  · cases h
theorem de_all (hc : X.calm = true) (hm : X.mg "all" = none) (ha : DE X C E ρ e k re) (hg : Gl X "all" := by rfl) (he : starEach [e] X.env = [(false, eval e X.env)] := by rfl) : DE X C E ρ (.Call (.Name "all" p) [e] [] pos) .sh (re >>= allD) := by
  refine de_c1 (pe_callB (cr_all hc) hg hm (by decide +kernel) (pa_cons ha pa_nil he) (he := he)) (fun d o h => ?_) fun d c n h => by unfold allD at h; split at h <;> (try split at h) <;> cases h
  unfold allD at h
  split at h
  · split at h
    · rename_i ds ns hn
      cases h
      refine ⟨_, rfl, fun H v Q hd q => ?_⟩
      obtain rfl := boolsOf_eq hn
      obtain ⟨a, ys, rfl, h1, h2⟩ := Dp.list hd
      obtain rfl := dp_bools h2
      exact ⟨a, ns, rfl, h1, q⟩
    · cases h
  · cases h

/-! ### repr -/
/-- what repr shows -/
def repD (d : D) : Res D := if PyData.showable d && !PyData.hasDict d && decide (d.depth ≤ 60) && decide (d.shown.length ≤ sizeLine) then .ok (.str d.shown) else .stuck
theorem call_reprD (hg : X.A.guards = some []) (hu : X.A.units + 70 < cLine) : CallR X (.builtin "repr") (fun xs H Q => ∃ v d, xs = [v] ∧ Dp X.K H v d ∧ PyData.showable d = true ∧ PyData.hasDict d = false ∧ d.depth ≤ 60 ∧ d.shown.length ≤ sizeLine ∧ Q (.str d.shown) H) := by
  intro pins s σ H xs us Q I r h
  obtain ⟨v, d, rfl, hd, h1, h2, h3, h4, q⟩ := h
  obtain ⟨u, rfl, rv⟩ := vals1 r
  cases d with
  | none =>
    cases hd
    cases rv
    exact PySem.P.repr_of_none ⟨.str _, H, I.tok _, ⟨_, rfl⟩, q⟩
  | bool b =>
    cases hd
    cases rv
    refine PySem.P.repr_of_bool ⟨.str _, H, I.tok _, ⟨_, rfl⟩, ?_⟩
    cases b <;> exact q
  | int i =>
    cases hd
    obtain ⟨t, rfl⟩ := rv
    exact PySem.P.repr_of_int (by simpa [PyData.showable] using h1) ⟨.str _, H, I.tok _, ⟨_, rfl⟩, q⟩
  | str x =>
    cases hd
    obtain ⟨t, rfl⟩ := rv
    exact PySem.P.repr_of_str ⟨.str _, H, I.tok _, ⟨_, rfl⟩, q⟩ h4
  | list ds =>
    obtain ⟨as, rd⟩ := Dp.reads I _ v u hd rv
    cases hd
    cases rv
    exact repr_of_reads' rd h1 (fun z => by rw [h2] at z; cases z) hg (by omega) (fun _ _ e => e) (fun h' u tk hk => ⟨.str _, H, I.kept hk, ⟨_, rfl⟩, q⟩) h4
  | tuple ds =>
    obtain ⟨as, rd⟩ := Dp.reads I _ v u hd rv
    cases hd
    cases rv
    exact repr_of_reads' rd h1 (fun z => by rw [h2] at z; cases z) hg (by omega) (fun _ _ e => e) (fun h' u tk hk => ⟨.str _, H, I.kept hk, ⟨_, rfl⟩, q⟩) h4
  | dict _ => cases hd
theorem de_repr (hgd : X.A.guards = some []) (hu : X.A.units + 70 < cLine) (hm : X.mg "repr" = none) (ha : DE X C E ρ e k re) (hg : Gl X "repr" := by rfl) (he : starEach [e] X.env = [(false, eval e X.env)] := by rfl) : DE X C E ρ (.Call (.Name "repr" p) [e] [] pos) .sh (re >>= repD) := by
  refine de_c1 (pe_callB (call_reprD hgd hu) hg hm (by decide +kernel) (pa_cons ha pa_nil he) (he := he)) (fun d o h => ?_) fun d c n h => by unfold repD at h; split at h <;> cases h
  unfold repD at h
  split at h
  · rename_i hz
    simp only [Bool.and_eq_true, decide_eq_true_eq, Bool.not_eq_true'] at hz
    cases h
    exact ⟨_, rfl, fun H v Q hd q => ⟨v, d, rfl, hd, hz.1.1.1, hz.1.1.2, hz.1.2, hz.2, q⟩⟩
  · cases h

/-! ### min and max of a list of alike data -/
theorem DpAll.of_get {K : PySem.W.Frag} {H : Hp} : ∀ {ds : List D} {xs : List V}, xs.length = ds.length → (∀ (j : Nat) (d : D), ds[j]? = some d → ∃ u, xs[j]? = some u ∧ Dp K H u d) → DpAll K H xs ds
  | [], [], _, _ => .nil
  | [], _ :: _, h, _ => by cases h
  | _ :: _, [], h, _ => by cases h
  | d :: ds, x :: xs, h, g => by
    obtain ⟨u, h1, h2⟩ := g 0 d rfl
    cases h1
    exact .cons h2 (DpAll.of_get (by simpa using h) fun j d' e => g (j + 1) d' e)
theorem RepX.itemV {K : PySem.W.Frag} {P F B H : Hp} {k : Kd} {v : V} (fb : Same F B) (bh : Same B H) {ds : List D} (r : RepX K P F B H k v (.list ds)) : ∃ a xs, v = .ref a ∧ SqL K H a xs ∧ DpAll K H xs ds ∧ ∀ (j : Nat) (d : D), ds[j]? = some d → ∃ u, xs[j]? = some u ∧ RepX K P F B H (ik k) u d := by
  obtain ⟨a, xs, rfl, h1, hl, h2⟩ := r.item fb bh
  refine ⟨a, xs, rfl, h1, DpAll.of_get hl fun j d e => ?_, h2⟩
  obtain ⟨u, h3, h4⟩ := h2 j d e
  exact ⟨u, h3, h4.view fb bh⟩
def alikeB (xs : List D) : Bool := (xs.all fun x => xs.all fun y => alike x y) && xs.all fun x => !isN x
theorem alikeB_all {xs : List D} (h : alikeB xs = true) : AlikeAll xs := by
  simp only [alikeB, Bool.and_eq_true, List.all_eq_true] at h
  exact ⟨h.1, fun x hx z => by subst z; have := h.2 _ hx; simp [isN] at this⟩
def minL : D → Res D
  | .list (x :: xs) => if alikeB (x :: xs) && decide (PyData.depthAll (x :: xs) ≤ 60) then .ok (minD x xs) else .stuck
  | _ => .stuck
def maxL : D → Res D
  | .list (x :: xs) => if alikeB (x :: xs) && decide (PyData.depthAll (x :: xs) ≤ 60) then .ok (maxD x xs) else .stuck
  | _ => .stuck
theorem call_minD (hc : X.calm = true) (hu : X.A.units + 70 < cLine) : CallR X (.builtin "min") (fun vs H Q => ∃ a xs x ds, vs = [V.ref a] ∧ SqL X.K H a xs ∧ DpAll X.K H xs (x :: ds) ∧ alikeB (x :: ds) = true ∧ PyData.depthAll (x :: ds) ≤ 60 ∧
    ∀ (i : Nat) v, xs[i]? = some v → (x :: ds)[i]? = some (minD x ds) → Q v H) := by
  intro pins s σ H vs us Q I r h
  obtain ⟨a, xs, x, ds, rfl, hs, hd, hal, hdp, q⟩ := h
  obtain ⟨its, rv, hl, _⟩ := I.list hs
  rw [Vals.ref1 r]
  obtain ⟨as, rds⟩ := Dp.readsAll I _ _ _ hd rv
  have al := alikeB_all hal
  refine min_list_data (I.ok.hd hc) hl.isList (by simpa using rds) al (by omega) fun i u h' tk bs hi hr hk => ?_
  have hi' : its[i]? = some u := by simpa using hi
  obtain ⟨bs', r1, hlt, hmem, _⟩ := readsAll_at rds i u hi'
  have hil : i < xs.length := by rw [rv.length]; exact (List.getElem?_eq_some_iff.mp hi').1
  have hv : xs[i]? = some xs[i] := List.getElem?_eq_getElem hil
  obtain ⟨u', hu', ru⟩ := rv.get hv
  rw [hi'] at hu'
  cases hu'
  have mem : minD x ds ∈ x :: ds := by
    unfold minD
    have : ∀ (l : List D) (y : D), l.foldl (fun a y => if dataLt y a then y else a) y ∈ y :: l := fun l => by
      induction l with
      | nil => intro y; simp
      | cons z l ih =>
        intro y
        simp only [List.foldl_cons]
        split
        · exact List.mem_cons_of_mem _ (ih z)
        · rcases List.mem_cons.mp (ih y) with e | e
          · rw [e]; exact List.mem_cons_self
          · exact List.mem_cons_of_mem _ (List.mem_cons_of_mem _ e)
    exact this ds x
  have eq := alike_unique _ _ u _ _ (al.1 _ hmem _ mem) (reads_keeps hk r1) hr
  refine ⟨xs[i], H, I.kept hk, ru, q i _ hv ?_⟩
  rw [List.getD_eq_getElem?_getD, List.getElem?_eq_getElem hlt] at eq
  rw [List.getElem?_eq_getElem hlt]
  exact congrArg some eq
theorem call_maxD (hc : X.calm = true) (hu : X.A.units + 70 < cLine) : CallR X (.builtin "max") (fun vs H Q => ∃ a xs x ds, vs = [V.ref a] ∧ SqL X.K H a xs ∧ DpAll X.K H xs (x :: ds) ∧ alikeB (x :: ds) = true ∧ PyData.depthAll (x :: ds) ≤ 60 ∧
    ∀ (i : Nat) v, xs[i]? = some v → (x :: ds)[i]? = some (maxD x ds) → Q v H) := by
  intro pins s σ H vs us Q I r h
  obtain ⟨a, xs, x, ds, rfl, hs, hd, hal, hdp, q⟩ := h
  obtain ⟨its, rv, hl, _⟩ := I.list hs
  rw [Vals.ref1 r]
  obtain ⟨as, rds⟩ := Dp.readsAll I _ _ _ hd rv
  have al := alikeB_all hal
  refine max_list_data (I.ok.hd hc) hl.isList (by simpa using rds) al (by omega) fun i u h' tk bs hi hr hk => ?_
  have hi' : its[i]? = some u := by simpa using hi
  obtain ⟨bs', r1, hlt, hmem, _⟩ := readsAll_at rds i u hi'
  have hil : i < xs.length := by rw [rv.length]; exact (List.getElem?_eq_some_iff.mp hi').1
  have hv : xs[i]? = some xs[i] := List.getElem?_eq_getElem hil
  obtain ⟨u', hu', ru⟩ := rv.get hv
  rw [hi'] at hu'
  cases hu'
  have mem : maxD x ds ∈ x :: ds := by
    unfold maxD
    have : ∀ (l : List D) (y : D), l.foldl (fun a y => if dataLt a y then y else a) y ∈ y :: l := fun l => by
      induction l with
      | nil => intro y; simp
      | cons z l ih =>
        intro y
        simp only [List.foldl_cons]
        split
        · exact List.mem_cons_of_mem _ (ih z)
        · rcases List.mem_cons.mp (ih y) with e | e
          · rw [e]; exact List.mem_cons_self
          · exact List.mem_cons_of_mem _ (List.mem_cons_of_mem _ e)
    exact this ds x
  have eq := alike_unique _ _ u _ _ (al.1 _ hmem _ mem) (reads_keeps hk r1) hr
  refine ⟨xs[i], H, I.kept hk, ru, q i _ hv ?_⟩
  rw [List.getD_eq_getElem?_getD, List.getElem?_eq_getElem hlt] at eq
  rw [List.getElem?_eq_getElem hlt]
  exact congrArg some eq
theorem de_minL (hc : X.calm = true) (hu : X.A.units + 70 < cLine) (hm : X.mg "min" = none) (ha : DE X C E ρ e k re) (hg : Gl X "min" := by rfl) (he : starEach [e] X.env = [(false, eval e X.env)] := by rfl) : DE X C E ρ (.Call (.Name "min" p) [e] [] pos) (ik k) (re >>= minL) :=
  PE_imp (pe_callB (call_minD hc hu) hg hm (by decide +kernel) (pa_cons ha pa_nil he) (he := he)) fun σ H Q ⟨F, B, R, p⟩ => tD1 (Z := PP X.K (ik k) Q) R p PP.mono fun d v F1 B1 H1 x1 R1 rx p1 => by
    unfold minL at p1
    split at p1
    · rename_i x xs
      split at p1
      · rename_i h
        simp only [Bool.and_eq_true, decide_eq_true_eq] at h
        obtain ⟨l2, vs2, rfl, g1, g2, g3⟩ := rx.itemV R1.fb R1.bh
        refine ⟨l2, vs2, x, xs, rfl, g1, g2, h.1, h.2, fun i v hv hd => ?_⟩
        obtain ⟨u, hu', ru⟩ := g3 i _ hd
        rw [hv] at hu'
        cases hu'
        exact fin_k R1 p1 (ru.anyP (own_ik k))
      · exact p1.elim
    · exact p1.elim
theorem de_maxL (hc : X.calm = true) (hu : X.A.units + 70 < cLine) (hm : X.mg "max" = none) (ha : DE X C E ρ e k re) (hg : Gl X "max" := by rfl) (he : starEach [e] X.env = [(false, eval e X.env)] := by rfl) : DE X C E ρ (.Call (.Name "max" p) [e] [] pos) (ik k) (re >>= maxL) :=
  PE_imp (pe_callB (call_maxD hc hu) hg hm (by decide +kernel) (pa_cons ha pa_nil he) (he := he)) fun σ H Q ⟨F, B, R, p⟩ => tD1 (Z := PP X.K (ik k) Q) R p PP.mono fun d v F1 B1 H1 x1 R1 rx p1 => by
    unfold maxL at p1
    split at p1
    · rename_i x xs
      split at p1
      · rename_i h
        simp only [Bool.and_eq_true, decide_eq_true_eq] at h
        obtain ⟨l2, vs2, rfl, g1, g2, g3⟩ := rx.itemV R1.fb R1.bh
        refine ⟨l2, vs2, x, xs, rfl, g1, g2, h.1, h.2, fun i v hv hd => ?_⟩
        obtain ⟨u, hu', ru⟩ := g3 i _ hd
        rw [hv] at hu'
        cases hu'
        exact fin_k R1 p1 (ru.anyP (own_ik k))
      · exact p1.elim
    · exact p1.elim

/-! ### list(l) -/
def listD (t : Bool) (k : Kd) : D → Res D
  | .list ds => if itemsX t k ds then .ok (.list ds) else .stuck
  | _ => .stuck
theorem de_listof (t : Bool) (hm : X.mg "list" = none) (ha : DE X C E ρ e k re) (na : noKx k = true := by rfl) (hg : Gl X "list" := by rfl) (he : starEach [e] X.env = [(false, eval e X.env)] := by rfl) : DE X C E ρ (.Call (.Name "list" p) [e] [] pos) (oX t) (re >>= listD t k) :=
  PE_imp (pe_callTy call_list_of hg hm (by decide +kernel) (pa_cons ha pa_nil he) (he := he)) fun σ H Q ⟨F, B, R, p⟩ => tD1 (Z := PP X.K (oX t) Q) R p PP.mono fun d v F1 B1 H1 x1 R1 rx p1 => by
    unfold listD at p1
    split at p1
    · rename_i ds
      split at p1
      · rename_i h
        cases t with
        | true =>
          obtain ⟨l, xs, rfl, h1, h2⟩ := rx.items R1.fb R1.bh na h
          exact ⟨l, xs, rfl, .inl (.inl h1), fun q hq => new_list R1 p1 h2 hq⟩
        | false =>
          obtain ⟨l, xs, rfl, h1, h2⟩ := rx.itemsB R1.fb R1.bh na h
          exact ⟨l, xs, rfl, .inl (.inl h1), fun q hq => new_listB R1 p1 h2 hq⟩
      · exact p1.elim
    · exact p1.elim
end
end DL

/-! DL12: what the printed derivations lean on -/
namespace DL
open PySem PySem.Spec L2
open PyProof.Rows hiding St

/-! ### errors do not come from targets -/
def NX {α T : Type} (f : α → Res T) : Prop := ∀ d c n, f d ≠ .exc c n
theorem nx_ok {α T : Type} {g : α → T} : NX (fun d => Res.ok (g d)) := fun _ _ _ h => nomatch h
theorem nx_un1 {T : Type} {f : D → Res T} (h : NX f) : NX (un1 f) := fun ds c n e => by
  unfold un1 at e
  split at e
  · exact h _ _ _ e
  · cases e
theorem nx_unC {T U : Type} {f : D → Res T} {g : List D → Res U} (h : NX f) (k : NX g) : NX (unC f g) := fun ds c n e => by
  unfold unC at e
  split at e
  · rename_i d r
    cases q : f d with
    | ok t =>
      rw [q] at e
      cases q2 : g r with
      | ok u => simp only [Res.bind_ok, q2] at e; cases e
      | exc c' n' => exact k _ _ _ q2
      | stuck => simp only [Res.bind_ok, q2, Res.bind_stuck] at e; cases e
    | exc c' n' => exact h _ _ _ q
    | stuck => rw [q] at e; cases e
  · cases e
theorem nx_unT {T : Type} {m : Nat} {f : List D → Res T} (h : NX f) : NX (unT m f) := fun d c n e => by
  unfold unT at e
  split at e
  · split at e
    · exact h _ _ _ e
    · cases e
  · cases e

/-! ### cells forgotten -/
theorem EnvLe.set {c : Cell} : ∀ {ρ : Env} {i : Nat}, ρ[i]? = some none → EnvLe ρ (ρ.set i c)
  | [], _, h => by simp at h
  | x :: r, 0, h => by
    simp only [List.getElem?_cons_zero, Option.some.injEq] at h
    subst h
    exact .drop (EnvLe.refl r)
  | x :: r, i + 1, h => .keep (EnvLe.set (by simpa using h))
theorem EnvLe.trans : ∀ {a b c : Env}, EnvLe a b → EnvLe b c → EnvLe a c
  | _, _, _, .nil, .nil => .nil
  | _, _, _, .keep h, .keep k => .keep (EnvLe.trans h k)
  | _, _, _, .keep h, .drop k => .drop (EnvLe.trans h k)
  | _, _, _, .drop h, .keep k => .drop (EnvLe.trans h k)
  | _, _, _, .drop h, .drop k => .drop (EnvLe.trans h k)

/-! ### two clauses: the inner clause's names are free, nothing is owned -/
theorem EnvLe.get_none {ρ : Env} {i : Nat} (h : ρ[i]? = some none) (k : Kd) (d : D) : ρ[i]? ≠ some (some (k, d)) := fun e => by rw [h] at e; cases e
def noOwn : Env → Bool
  | [] => true
  | some (k, _) :: r => !own k && noOwn r
  | none :: r => noOwn r
theorem noOwn_get : ∀ {ρ : Env}, noOwn ρ = true → ∀ (i : Nat) k d, ρ[i]? = some (some (k, d)) → DL.own k = false
  | [], _, i, k, d, e => by simp at e
  | some (k', _) :: r, h, 0, k, d, e => by
    cases e
    simp only [noOwn, Bool.and_eq_true, Bool.not_eq_true'] at h
    exact h.1
  | none :: r, h, 0, k, d, e => by cases e
  | some (k', _) :: r, h, i + 1, k, d, e => by
    simp only [noOwn, Bool.and_eq_true] at h
    exact noOwn_get h.2 i k d e
  | none :: r, h, i + 1, k, d, e => noOwn_get (ρ := r) h i k d e
def allNone (ρ : Env) : List Nat → Bool
  | [] => true
  | i :: r => (match ρ[i]? with | some none => true | _ => false) && allNone ρ r
theorem allNone_get {ρ : Env} : ∀ {l : List Nat}, allNone ρ l = true → ∀ (i : Nat) k d, i ∈ l → ρ[i]? ≠ some (some (k, d))
  | [], _, i, k, d, m => by cases m
  | j :: r, h, i, k, d, m => by
    simp only [allNone, Bool.and_eq_true] at h
    rcases List.mem_cons.mp m with e | m
    · subst e
      have h1 := h.1
      split at h1
      · rename_i q; rw [q]; simp
      · cases h1
    · exact allNone_get h.2 i k d m

/-! ### code that is not come to; an own list returned -/
section
variable {X : Cx} {C : Gd} {E : XK} {ρ : Env} {kr : Kd} {ss : List Stmt} {S L : Type} {po : S → Env} {pk : L → Env} {pos : Pos}
theorem db_stuck : DB X C E kr ρ ss po pk (.stuck : Res (Fl S L)) := PSs_imp pss_never fun Z σ H ⟨F, B, R, p⟩ => p
theorem db_retO {i : Nat} {x : Str} {d : D} {p1 : Pos} (hi : ρ[i]? = some (some (.ow, d)) := by rfl) (hN : X.N[i]? = some x := by rfl) (hv : Vis X.env.scope x := by first | exact Or.inl rfl | exact Or.inr (Or.inl rfl) | exact Or.inr (Or.inr rfl))
    (hd : (x == ("__debug__" : Str)) = false := by decide) (hcd : (x == ("__classdict__" : Str)) = false := by decide) : DB X C E .ow ρ (.Return (some (.Name x p1)) pos :: ss) po pk (.ok (.rt d) : Res (Fl S L)) := by
  have h1 : PSs X (.Return (some (.Name x p1)) pos :: ss) (tSeq (tRet _) tNever) := pss_cons (ps_ret (pe_var hN hv hd hcd)) pss_never
  exact PSs_imp h1 fun Z σ H ⟨F, B, R, p⟩ => by
    obtain ⟨v, h1, a, xs, ds, rfl, rfl, h2, h3, h4⟩ := R.cells i _ _ hi
    exact ⟨_, h1, p F B H _ R.bs ⟨a, xs, ds, rfl, rfl, h2, h3, R.h0.free h3, h4⟩⟩
end

theorem LCX {P : Program} {w : World} {H : Hp} {s : Shared} {e : Value} {s' : Shared} (h : L2.CX P w [] H s (fun _ _ _ => False) e s') : False := by
  obtain ⟨_, _, _, _, _, _, _, _, _, _, _, _, z⟩ := h
  exact z

/-! ### the arguments by number -/
def rd0 {α : Type} (f : Res α) : List D → Res α
  | [] => f
  | _ => .stuck
def rd1 {α : Type} (f : D → Res α) : List D → Res α
  | [a] => f a
  | _ => .stuck
def rd2 {α : Type} (f : D → D → Res α) : List D → Res α
  | [a, b] => f a b
  | _ => .stuck
def rd3 {α : Type} (f : D → D → D → Res α) : List D → Res α
  | [a, b, c] => f a b c
  | _ => .stuck
def rd4 {α : Type} (f : D → D → D → D → Res α) : List D → Res α
  | [a, b, c, d] => f a b c d
  | _ => .stuck
def rd5 {α : Type} (f : D → D → D → D → D → Res α) : List D → Res α
  | [a, b, c, d, e] => f a b c d e
  | _ => .stuck
def rd6 {α : Type} (f : D → D → D → D → D → D → Res α) : List D → Res α
  | [a, b, c, d, e, g] => f a b c d e g
  | _ => .stuck
def rd7 {α : Type} (f : D → D → D → D → D → D → D → Res α) : List D → Res α
  | [a, b, c, d, e, g, h] => f a b c d e g h
  | _ => .stuck
section
variable {α : Type}
@[simp] theorem rd0_eq (f : Res α) : rd0 f [] = f := id rfl
@[simp] theorem rd1_eq (f : D → Res α) (a : D) : rd1 f [a] = f a := id rfl
@[simp] theorem rd2_eq (f : D → D → Res α) (a b : D) : rd2 f [a, b] = f a b := id rfl
@[simp] theorem rd3_eq (f : D → D → D → Res α) (a b c : D) : rd3 f [a, b, c] = f a b c := id rfl
@[simp] theorem rd4_eq (f : D → D → D → D → Res α) (a b c d : D) : rd4 f [a, b, c, d] = f a b c d := id rfl
@[simp] theorem rd5_eq (f : D → D → D → D → D → Res α) (a b c d e : D) : rd5 f [a, b, c, d, e] = f a b c d e := id rfl
@[simp] theorem rd6_eq (f : D → D → D → D → D → D → Res α) (a b c d e g : D) : rd6 f [a, b, c, d, e, g] = f a b c d e g := id rfl
@[simp] theorem rd7_eq (f : D → D → D → D → D → D → D → Res α) (a b c d e g h : D) : rd7 f [a, b, c, d, e, g, h] = f a b c d e g h := id rfl
end
section
variable {P : Program} {w : World} {K : PySem.W.Frag} {mg : Str → Option Value} {base : Heap} {x qual : Str} {st : Stmt} {f : Addr} {fd : FuncData} {N ps : List Str} {lev : Nat} {fl : List Kd} {rk : Kd}
abbrev cxF (P : Program) (w : World) (K : PySem.W.Frag) (mg : Str → Option Value) (base : Heap) (N : List Str) (qual : Str) (st : Stmt) (f : Addr) (cdv : Value) (A : Around) (outer : List PySem.Env) (s : Shared) (H : Hp) (E : XK) : Cx :=
  cxOf (L2.CX P w) P w K mg base N qual (defScope st) f cdv A outer s H E
abbrev stE (N : List Str) (fl : List Kd) (ds : List D) : Env := startE fl ds ++ List.replicate (N.length - fl.length) none
/-- the end of a def's block: nothing is known there -/
abbrev poN (N : List Str) : Unit → Env := fun _ => List.replicate N.length none
abbrev pkN : Empty → Env := fun l => nomatch l
theorem fn0 {b : Res (Fl Unit Empty)} (Fn : Fun K x qual st f fd) (S : FnScope N [] (defScope st)) (hfl : fl = [])
    (body : ∀ (cdv : Value) (A : Around) (outer : List PySem.Env) (s : Shared) (H F : Hp) (E : XK), RoomG lev (A.deeper (envOfC qual (defScope st) s.heap.objs.size f cdv)) →
      DB (cxF P w K mg base N qual st f cdv A outer s H E) ⟨H, F⟩ E rk (stE N fl []) (defBody st) (poN N) pkN b) : FG P w K mg base (lev + 1) f fd [] (spD K mg fl rk fun ds => fnR rk (rd0 b ds)) := by
  subst hfl
  refine fn_d (po := poN N) (pk := pkN) (r := rd0 b) Fn S rfl (Nat.zero_le _) rfl (fun cdv A outer s H F E ds hd hr => ?_) fun _ _ => rfl
  match ds, hd with
  | [], _ => exact body cdv A outer s H F E hr
theorem fn1 {p1 : Str} {b : D → Res (Fl Unit Empty)} (Fn : Fun K x qual st f fd) (S : FnScope N [p1] (defScope st)) (hfl : fl.length = 1) (hl : 1 ≤ N.length) (ha : fl.all (fun k => k == .sh || k == .bo || k == .kx) = true)
    (body : ∀ (cdv : Value) (A : Around) (outer : List PySem.Env) (s : Shared) (H F : Hp) (E : XK) (d1 : D), RoomG lev (A.deeper (envOfC qual (defScope st) s.heap.objs.size f cdv)) →
      DB (cxF P w K mg base N qual st f cdv A outer s H E) ⟨H, F⟩ E rk (stE N fl [d1]) (defBody st) (poN N) pkN (b d1)) : FG P w K mg base (lev + 1) f fd [p1] (spD K mg fl rk fun ds => fnR rk (rd1 b ds)) := by
  refine fn_d (po := poN N) (pk := pkN) (r := rd1 b) Fn S hfl (by rw [hfl]; exact hl) ha (fun cdv A outer s H F E ds hd hr => ?_) fun _ _ => rfl
  match ds, hd with
  | [d1], _ => exact body cdv A outer s H F E d1 hr
theorem fn2 {p1 p2 : Str} {b : D → D → Res (Fl Unit Empty)} (Fn : Fun K x qual st f fd) (S : FnScope N [p1, p2] (defScope st)) (hfl : fl.length = 2) (hl : 2 ≤ N.length) (ha : fl.all (fun k => k == .sh || k == .bo || k == .kx) = true)
    (body : ∀ (cdv : Value) (A : Around) (outer : List PySem.Env) (s : Shared) (H F : Hp) (E : XK) (d1 d2 : D), RoomG lev (A.deeper (envOfC qual (defScope st) s.heap.objs.size f cdv)) →
      DB (cxF P w K mg base N qual st f cdv A outer s H E) ⟨H, F⟩ E rk (stE N fl [d1, d2]) (defBody st) (poN N) pkN (b d1 d2)) : FG P w K mg base (lev + 1) f fd [p1, p2] (spD K mg fl rk fun ds => fnR rk (rd2 b ds)) := by
  refine fn_d (po := poN N) (pk := pkN) (r := rd2 b) Fn S hfl (by rw [hfl]; exact hl) ha (fun cdv A outer s H F E ds hd hr => ?_) fun _ _ => rfl
  match ds, hd with
  | [d1, d2], _ => exact body cdv A outer s H F E d1 d2 hr
theorem fn3 {p1 p2 p3 : Str} {b : D → D → D → Res (Fl Unit Empty)} (Fn : Fun K x qual st f fd) (S : FnScope N [p1, p2, p3] (defScope st)) (hfl : fl.length = 3) (hl : 3 ≤ N.length) (ha : fl.all (fun k => k == .sh || k == .bo || k == .kx) = true)
    (body : ∀ (cdv : Value) (A : Around) (outer : List PySem.Env) (s : Shared) (H F : Hp) (E : XK) (d1 d2 d3 : D), RoomG lev (A.deeper (envOfC qual (defScope st) s.heap.objs.size f cdv)) →
      DB (cxF P w K mg base N qual st f cdv A outer s H E) ⟨H, F⟩ E rk (stE N fl [d1, d2, d3]) (defBody st) (poN N) pkN (b d1 d2 d3)) : FG P w K mg base (lev + 1) f fd [p1, p2, p3] (spD K mg fl rk fun ds => fnR rk (rd3 b ds)) := by
  refine fn_d (po := poN N) (pk := pkN) (r := rd3 b) Fn S hfl (by rw [hfl]; exact hl) ha (fun cdv A outer s H F E ds hd hr => ?_) fun _ _ => rfl
  match ds, hd with
  | [d1, d2, d3], _ => exact body cdv A outer s H F E d1 d2 d3 hr
theorem fn4 {p1 p2 p3 p4 : Str} {b : D → D → D → D → Res (Fl Unit Empty)} (Fn : Fun K x qual st f fd) (S : FnScope N [p1, p2, p3, p4] (defScope st)) (hfl : fl.length = 4) (hl : 4 ≤ N.length) (ha : fl.all (fun k => k == .sh || k == .bo || k == .kx) = true)
    (body : ∀ (cdv : Value) (A : Around) (outer : List PySem.Env) (s : Shared) (H F : Hp) (E : XK) (d1 d2 d3 d4 : D), RoomG lev (A.deeper (envOfC qual (defScope st) s.heap.objs.size f cdv)) →
      DB (cxF P w K mg base N qual st f cdv A outer s H E) ⟨H, F⟩ E rk (stE N fl [d1, d2, d3, d4]) (defBody st) (poN N) pkN (b d1 d2 d3 d4)) : FG P w K mg base (lev + 1) f fd [p1, p2, p3, p4] (spD K mg fl rk fun ds => fnR rk (rd4 b ds)) := by
  refine fn_d (po := poN N) (pk := pkN) (r := rd4 b) Fn S hfl (by rw [hfl]; exact hl) ha (fun cdv A outer s H F E ds hd hr => ?_) fun _ _ => rfl
  match ds, hd with
  | [d1, d2, d3, d4], _ => exact body cdv A outer s H F E d1 d2 d3 d4 hr
theorem fn5 {p1 p2 p3 p4 p5 : Str} {b : D → D → D → D → D → Res (Fl Unit Empty)} (Fn : Fun K x qual st f fd) (S : FnScope N [p1, p2, p3, p4, p5] (defScope st)) (hfl : fl.length = 5) (hl : 5 ≤ N.length) (ha : fl.all (fun k => k == .sh || k == .bo || k == .kx) = true)
    (body : ∀ (cdv : Value) (A : Around) (outer : List PySem.Env) (s : Shared) (H F : Hp) (E : XK) (d1 d2 d3 d4 d5 : D), RoomG lev (A.deeper (envOfC qual (defScope st) s.heap.objs.size f cdv)) →
      DB (cxF P w K mg base N qual st f cdv A outer s H E) ⟨H, F⟩ E rk (stE N fl [d1, d2, d3, d4, d5]) (defBody st) (poN N) pkN (b d1 d2 d3 d4 d5)) : FG P w K mg base (lev + 1) f fd [p1, p2, p3, p4, p5] (spD K mg fl rk fun ds => fnR rk (rd5 b ds)) := by
  refine fn_d (po := poN N) (pk := pkN) (r := rd5 b) Fn S hfl (by rw [hfl]; exact hl) ha (fun cdv A outer s H F E ds hd hr => ?_) fun _ _ => rfl
  match ds, hd with
  | [d1, d2, d3, d4, d5], _ => exact body cdv A outer s H F E d1 d2 d3 d4 d5 hr
/-- errors leave a def's body as they come -/
theorem passF {cdv : Value} {A : Around} {outer : List PySem.Env} {s : Shared} {H : Hp} {E : XK} : Passes (L2.CX P w) (cxF P w K mg base N qual st f cdv A outer s H E) E :=
  passes_call (takes_of rfl rfl rfl rfl) (fun _ _ _ _ h => h)
theorem passOwnF {cdv : Value} {A : Around} {outer : List PySem.Env} {s : Shared} {H : Hp} {E : XK} : PassesOwn (model P w) (cxF P w K mg base N qual st f cdv A outer s H E).A (cxF P w K mg base N qual st f cdv A outer s H E).env (cxF P w K mg base N qual st f cdv A outer s H E).xe :=
  passes_of rfl
theorem RoomG.un {k : Nat} {A : Around} (r : RoomG k A) : A.units + 70 < cLine := by have := r.1.un; omega
theorem RoomG.un64 {k : Nat} {A : Around} (r : RoomG k A) : A.units + 64 < cLine := by have := r.1.un; omega
theorem RoomG.un65 {k : Nat} {A : Around} (r : RoomG k A) : A.units + 65 < cLine := by have := r.1.un; omega
end
end DL

/-! DL13: list(range), sorted, index, count, reversed slices, lists as tests -/
namespace DL
open PySem PySem.Spec L2
open PyProof.Rows hiding St
open PySem.W (alike AlikeAll minD maxD dataLt min_list_data max_list_data readsAll_at alike_unique reads_keeps)

/-- so many turns of a while at most -/
def fuelN : Nat := 1000000
section
variable {X : Cx} {C : Gd} {E : XK} {ρ : Env} {e a b o : Expr} {k ka kb ko : Kd} {re ra rb ro : Res D} {p p2 pos apos cpos : Pos}
/-! ### list(range(..)) -/
theorem cr_rng1 : CallR X (.type "range") (fun vs H Q => ∃ j, vs = [V.int j] ∧ ∀ p, H p = none → Q (.ref p) (upd H p (.rng 0 j))) := by
  intro pins s σ H vs us Q I r h
  obtain ⟨j, rfl, q⟩ := h
  obtain ⟨u, rfl, t, rfl⟩ := vals1 r
  refine call_range_1 ⟨.ref s.heap.objs.size, upd H s.heap.objs.size (.rng 0 j), I.laid (t' := s.toks + 1 + 1) (fun b o e => Heap.get?_push_of_some _ e) (Nat.le_refl _) ?_, rfl, q _ (I.hok.fresh (Nat.le_refl _))⟩
  exact ⟨s.toks, t, s.toks + 1, Heap.get?_push_size _ rfl⟩
theorem vals_rng {acc : Array Value} {n : Nat} {a : Int} (h : ItemsOf (fun i v => ∃ t, v = .int (a + i * 1) t) acc n) : Vals ((List.range n).map fun i => V.int (a + (i : Nat))) acc.toList := by
  have key : ∀ (us : List Value) (b : Int), (∀ (i : Nat) (v : Value), us[i]? = some v → ∃ t, v = .int (b + (i : Nat)) t) → Vals ((List.range us.length).map fun i => V.int (b + (i : Nat))) us := fun us => by
    induction us with
    | nil => intro b _; exact .nil
    | cons u r ih =>
      intro b hu
      rw [List.length_cons, List.range_succ_eq_map, List.map_cons, List.map_map]
      refine .cons ?_ ?_
      · obtain ⟨t, e⟩ := hu 0 u rfl
        exact ⟨t, by rw [e]⟩
      · have := ih (b + 1) fun i v hv => by
          obtain ⟨t, e⟩ := hu (i + 1) v (by simpa using hv)
          exact ⟨t, by rw [e]; congr 1; push_cast; omega⟩
        refine Eq.mp ?_ this
        congr 1
        apply List.map_congr_left
        intro i _
        show V.int _ = V.int _
        congr 1
        simp only [Nat.succ_eq_add_one]
        push_cast
        omega
  obtain ⟨hn, hi⟩ := h
  have := key acc.toList a fun i v hv => by
    obtain ⟨hl, e⟩ := List.getElem?_eq_some_iff.mp hv
    have hl' : i < acc.size := by simpa using hl
    obtain ⟨t, q⟩ := hi i v (by rw [Array.getElem?_eq_getElem hl']; exact congrArg some (by simpa using e))
    exact ⟨t, by rw [q]; congr 1; omega⟩
  rw [Array.length_toList, hn] at this
  exact this
theorem rngSize {i j : Int} : Builtin.Range.rangeSize i j 1 = ((j - i).toNat : Nat) := by
  unfold Builtin.Range.rangeSize
  split <;> (try split) <;> omega
theorem cr_listRng (hc : X.calm = true) : CallR X (.type "list") (fun xs H Q => ∃ p i j, xs = [.ref p] ∧ H p = some (.rng i j) ∧ (-(2 ^ 62) ≤ i ∧ i < 2 ^ 62 ∧ -(2 ^ 62) ≤ j ∧ j < 2 ^ 62 ∧ (j - i).toNat ≤ sizeLine) ∧
    ∀ l, H l = none → Q (.ref l) (upd H l (.lst ((List.range (j - i).toNat).map fun k => V.int (i + (k : Nat)))))) := by
  intro pins s σ H xs us Q I r h
  obtain ⟨p, i, j, rfl, hp, ⟨h1, h2, h3, h4, h5⟩, q⟩ := h
  rw [Vals.ref1 r]
  obtain ⟨t, u, v, e⟩ := I.hok _ _ hp
  refine call_list_range (I.ok.hd hc) e (small_one h1 h2 h3 h4) rngSize h5 fun h' tk acc' c' hk hS hacc => ?_
  refine ⟨.ref _, upd H s.heap.objs.size (.lst ((List.range (j - i).toNat).map fun k => V.int (i + (k : Nat)))), I.laid (t' := tk) hk (Nat.le_refl _) ⟨by rw [List.length_map, List.length_range]; exact h5, acc'.toList, c', vals_rng hacc, by rw [hS]⟩, rfl, q _ (I.hok.fresh (Nat.le_refl _))⟩
theorem rp_rng {K : PySem.W.Frag} {F : Hp} (i : Int) (n : Nat) : RpAll K F ((List.range n).map fun k => V.int (i + (k : Nat))) ((List.range n).map fun k => PyData.int (i + (k : Nat))) := by
  have : ∀ l : List Nat, RpAll K F (l.map fun k => V.int (i + (k : Nat))) (l.map fun k => PyData.int (i + (k : Nat))) := fun l => by
    induction l with
    | nil => exact .nil
    | cons x r ih => exact .cons (.int _) ih
  exact this _
theorem de_lrng1 (hc : X.calm = true) (hm : X.mg "list" = none) (hm2 : X.mg "range" = none) (ha : DE X C E ρ e k re) (hg : Gl X "list" := by rfl) (hg2 : Gl X "range" := by rfl) (he : starEach [e] X.env = [(false, eval e X.env)] := by rfl)
    (he2 : starEach [.Call (.Name "range" p2) [e] [] cpos] X.env = [(false, eval (.Call (.Name "range" p2) [e] [] cpos) X.env)] := by rfl) :
    DE X C E ρ (.Call (.Name "list" p) [.Call (.Name "range" p2) [e] [] cpos] [] pos) .ow (re >>= fun d => rngL (.int 0) d >>= fun l => .ok (.list l)) :=
  PE_imp (pe_callTy (cr_listRng hc) hg hm (by decide +kernel) (pa_cons (pe_callTy cr_rng1 hg2 hm2 (by decide +kernel) (pa_cons ha pa_nil he) (he := he)) pa_nil he2) (he := he2)) fun σ H Q ⟨F, B, R, p⟩ => tD1 (Z := PP X.K .ow Q) R p PP.mono fun d v F1 B1 H1 x1 R1 rx p1 => by
    cases d with
    | int n =>
      obtain rfl := rx.int R1.fb R1.bh
      refine ⟨n, rfl, fun q hq => ?_⟩
      unfold rngL at p1
      simp only at p1
      split at p1
      · rename_i h
        refine ⟨q, 0, n, rfl, upd_same, h, fun l hl => ?_⟩
        have hql : H1 l = none := by
          by_cases z : l = q
          · subst z; exact hq
          · rw [upd_ne z] at hl; exact hl
        have x := Ext.tups R1.fb R1.bh
        have bn : tupsOf H1 B1 l = none := by
          cases z : tupsOf H1 B1 l with
          | none => rfl
          | some o => have := tupsOf_sub R1.bh _ _ z; rw [hql] at this; cases this
        have y : Ext F1 B1 H1 (tupsOf H1 F1) (tupsOf H1 B1) (upd (upd H1 q (.rng 0 n)) l (.lst ((List.range (n - 0).toNat).map fun k => V.int (0 + (k : Nat))))) :=
          ⟨x.f, x.b, x.fb, x.bh.trans ((Same.upd_none hq).trans (Same.upd_none hl)), (Same.upd_none hq).trans (Same.upd_none hl), x.nf, x.nb⟩
        exact p1 _ _ _ _ y ⟨l, _, _, rfl, rfl, upd_same, bn, hql, rp_rng 0 _⟩
      · exact p1.elim
    | _ => exact p1.elim

/-! ### sorted -/
def sortB (ds : List D) : Bool := (ds.all fun x => ds.all fun y => alike x y) && ((ds.all fun d => match d with | .tuple (_ :: _) => true | _ => false) || (ds.all fun d => match d with | .none => false | .tuple _ => false | _ => true)) && decide (ds.length ≤ sizeLine) && ds.all fun d => decide (d.depth ≤ 60)
def sortD (k : Kd) : D → Res D
  | .list ds => if itemsC k ds && sortB ds then .ok (.list (ds.mergeSort fun a b => !dataLt b a)) else .stuck
  | _ => .stuck
theorem sortB_ok {ds : List D} (h : sortB ds = true) : PySem.W.AllAlike ds ∧ PySem.W.Sortable ds ∧ ds.length ≤ sizeLine ∧ ∀ d ∈ ds, d.depth ≤ 60 := by
  simp only [sortB, Bool.and_eq_true, Bool.or_eq_true, List.all_eq_true, decide_eq_true_eq] at h
  obtain ⟨⟨⟨h1, h2⟩, h3⟩, h4⟩ := h
  refine ⟨fun d hd d' hd' => h1 d hd d' hd', ?_, h3, h4⟩
  rcases h2 with h2 | h2
  · left
    intro d hd
    have := h2 d hd
    cases d with
    | tuple xs =>
      cases xs with
      | nil => cases this
      | cons x r => exact ⟨x, r, rfl⟩
    | _ => cases this
  · right
    intro d hd
    have := h2 d hd
    refine ⟨fun z => ?_, fun xs z => ?_⟩
    · subst z; cases this
    · subst z; cases this
theorem each_of {F H : Hp} {s : Shared} {pins : List (Addr × Obj)} {σ : L2.St} (I : Inv X pins σ H s) (up : Same F H) : ∀ {xs : List V} {ds : List D} {us : List Value}, RpAll X.K F xs ds → Vals xs us →
    PySem.W.EachIs (fun v d => ∃ x, RelV x v ∧ Rp X.K F x d) us ds ∧ PySem.W.EachIs (fun v d => ∃ as, Reads s.heap v d as) us ds
  | _, _, _, .nil, .nil => ⟨.nil, .nil⟩
  | _, _, _, .cons h1 h2, .cons r1 r2 => by
    obtain ⟨g1, g2⟩ := each_of I up h2 r2
    exact ⟨.cons ⟨_, r1, h1⟩ g1, .cons (Dp.reads I _ _ _ (Dp.mono up _ _ (Rp.dp _ _ h1)) r1) g2⟩
theorem each_back {K : PySem.W.Frag} {F : Hp} : ∀ {us : List Value} {ds : List D}, PySem.W.EachIs (fun v d => ∃ x, RelV x v ∧ Rp K F x d) us ds → ∃ xs, Vals xs us ∧ RpAll K F xs ds
  | _, _, .nil => ⟨[], .nil, .nil⟩
  | _, _, .cons ⟨x, h1, h2⟩ t => by
    obtain ⟨xs, g1, g2⟩ := each_back t
    exact ⟨x :: xs, .cons h1 g1, .cons h2 g2⟩
theorem call_sortD (hu : X.A.units + 70 < cLine) : CallR X (.builtin "sorted") (fun vs H Q => ∃ a xs ds F, vs = [V.ref a] ∧ SqL X.K H a xs ∧ Same F H ∧ RpAll X.K F xs ds ∧ sortB ds = true ∧
    ∀ p ys, H p = none → RpAll X.K F ys (ds.mergeSort fun a b => !dataLt b a) → Q (.ref p) (upd H p (.lst ys))) := by
  intro pins s σ H vs us Q I r h
  obtain ⟨a, xs, ds, F, rfl, hs, up, hd, hb, q⟩ := h
  obtain ⟨its, rv, hl, _⟩ := I.list hs
  rw [Vals.ref1 r]
  obtain ⟨b1, b2, b3, b4⟩ := sortB_ok hb
  obtain ⟨e1, e2⟩ := each_of I up hd rv
  refine PySem.W.sorted_data (β := D) (enc := fun d => d) (R := fun v d => ∃ x, RelV x v ∧ Rp X.K F x d) hl.isList e1 e2 (by simpa using b1) (by simpa using b2) b3 (fun b hb => by have := b4 b hb; omega) fun out ho he => ?_
  obtain ⟨ys, g1, g2⟩ := each_back he
  obtain ⟨ep, he'⟩ := PyProof.Rows.sortedAll_at s.heap its out.toArray
  have hlen : ys.length ≤ sizeLine := by rw [g1.length, ho]; exact b3
  exact ⟨.ref _, upd H (s.heap.objs.size + 1) (.lst ys), I.laid (t' := s.toks) (fun _ _ => PyProof.Rows.sortedAll_old) (Nat.le_succ _) ⟨hlen, out, ep, g1, by simpa using he'⟩, rfl, q _ ys (I.hok.fresh (Nat.le_succ _)) g2⟩
theorem de_sorted (hu : X.A.units + 70 < cLine) (hm : X.mg "sorted" = none) (ha : DE X C E ρ e k re) (na : noKx k = true := by rfl) (hg : Gl X "sorted" := by rfl) (he : starEach [e] X.env = [(false, eval e X.env)] := by rfl) : DE X C E ρ (.Call (.Name "sorted" p) [e] [] pos) .ow (re >>= sortD k) :=
  PE_imp (pe_callB (call_sortD hu) hg hm (by decide +kernel) (pa_cons ha pa_nil he) (he := he)) fun σ H Q ⟨F, B, R, p⟩ => tD1 (Z := PP X.K .ow Q) R p PP.mono fun d v F1 B1 H1 x1 R1 rx p1 => by
    unfold sortD at p1
    split at p1
    · rename_i ds
      split at p1
      · rename_i h
        simp only [Bool.and_eq_true] at h
        obtain ⟨l, xs, rfl, h1, h2⟩ := rx.items R1.fb R1.bh na h.1
        exact ⟨l, xs, ds, _, rfl, .inl h1, tupsOf_sub (R1.fb.trans R1.bh), h2, h.2, fun p ys hp hy => new_list R1 p1 hy hp⟩
      · exact p1.elim
    · exact p1.elim

/-! ### index, count -/
def asL : D → Res (List D)
  | .list ds => .ok ds
  | _ => .stuck
def indexL (ds : List D) (y : D) : Res D := if SeqAt.shaped y && SeqAt.shaped (.list ds) then (match ds.findIdx? fun z => PyData.eqv z y with
    | some j => .ok (.int (j : Nat))
    | none => .stuck) else .stuck
def countL (ds : List D) (y : D) : Res D := if SeqAt.shaped y && SeqAt.shaped (.list ds) then .ok (.int ((ds.countP fun z => PyData.eqv z y : Nat) : Int)) else .stuck
theorem mt_countD (hu : X.A.units + 65 < cLine) : MtR X "list.count" (fun x xs H Q => ∃ (a : Addr) (y : V) (d : D) (ds : List D), x = V.ref a ∧ xs = [y] ∧ Dp X.K H (V.ref a) (.list ds) ∧ Dp X.K H y d ∧ SeqAt.shaped (.list ds) = true ∧ SeqAt.shaped d = true ∧
    Q (.int ((ds.countP fun z => PyData.eqv z d : Nat) : Int)) H) := by
  intro pins s σ H x xs v us Q I rx rxs h
  obtain ⟨a, y, d, ds, rfl, rfl, hl, hy, sl, sd, q⟩ := h
  cases rx
  cases rxs with
  | cons ry rt =>
    rename_i uy ut
    cases rt
    obtain ⟨bs, r1⟩ := Dp.reads I d y uy hy ry
    have hxs : PyData.canLayAll0 ds = true := SeqAt.canLay_of_shaped sl
    have hroom : X.A.units + 1 + min (PyData.depthAll ds) d.depth < cLine := room_in_shaped sd hu
    cases hl with
    | lst hs ha =>
      obtain ⟨its, rv, ⟨⟨cls, dd, data, sls⟩, n, ho, hc, hdn, hdt⟩, hlen⟩ := I.list hs
      simp only at hc hdt
      subst hc hdt
      obtain ⟨as, h4⟩ := Dp.readsAll I ds _ its ha rv
      have hmap : its.map (SeqAt.readOf s.heap) = ds := SeqAt.readsAll_map ds its as hxs h4
      have hcount : its.toArray.toList.countP (fun y => PyData.eqv (SeqAt.readOf s.heap y) d) = ds.countP fun z => PyData.eqv z d := by
        rw [← hmap, List.countP_map]
        rfl
      refine call_meets PySem.F.slot_list_count ⟨_, ho, rfl⟩ PySem.F.entry_list_count (PySem.F.args_list_count_2 _ _)
        (SeqAt.list_countAt a its.toArray n dd sls uy (fun u => PyData.eqv (SeqAt.readOf s.heap u) d)) ⟨ho, SeqAt.items_eqAt (vs := its.toArray) (show ReadsAll s.heap its.toArray.toList ds as from h4) r1 hxs (SeqAt.canLay_of_shaped sd) hroom, ?_⟩
      rw [hcount]
      exact ⟨.int _, H, I.tok _, ⟨_, rfl⟩, q⟩
theorem tyV_list {K : PySem.W.Frag} {H : Hp} {v : V} {ds : List D} (h : Dp K H v (.list ds)) : tyV K "list" v H := by
  obtain ⟨a, xs, rfl, h1, _⟩ := Dp.list h
  exact .inl ⟨rfl, xs, h1⟩
theorem de_index (hu : X.A.units + 65 < cLine) (ho : DE X C E ρ o ko ro) (ha : DE X C E ρ e k re)
    (hbase : attributeBase o "index" X.env (eval o X.env) = eval o X.env := by rfl)
    (hfew : ((backTo cpos (starEach [e] X.env)).all (fun x => !x.1) && (backToKw cpos (keywordEach [] X.env)).all (fun x => x.1.isSome) && decide ([e].length + ([] : List Keyword).length + (if ([] : List Keyword).isEmpty then 0 else 1) < 30)) = true := by rfl)
    (hline : (apos.endLine == cpos.line) = true := by rfl) (hs : starEach [e] X.env = (false, eval e X.env) :: starEach [] X.env := by rfl) (hplain : (backTo cpos (starEach [] X.env)).any (·.1) = false := by rfl) :
    DE X C E ρ (.Call (.Attribute o "index" apos) [e] [] cpos) .sh (ro >>= fun x => asL x >>= fun ds => re >>= fun y => indexL ds y) :=
  PE_imp (pe_bm PySem.F.plainAttrs_list PySem.F.slot_list_index PySem.F.type_list_index (mt_indexD hu) ho (pa_cons ha pa_nil hs) hbase hfew hline hs hplain) fun σ H Q ⟨F, B, R, p⟩ => tD1 (Z := PP X.K .sh Q) R p PP.mono fun x v F1 B1 H1 x1 R1 rx p1 => by
    cases x with
    | list ds =>
      refine ⟨tyV_list (rx.view R1.fb R1.bh), ?_⟩
      refine tD1 (Z := PP X.K .sh Q) R1 p1 PP.mono fun y u F2 B2 H2 x2 R2 ry p2 => ?_
      simp only [indexL] at p2
      split at p2
      · rename_i hsh
        simp only [Bool.and_eq_true] at hsh
        split at p2
        · rename_i j hj
          obtain ⟨hjl, hjt, hjm⟩ := List.findIdx?_eq_some_iff_getElem.mp hj
          have hd := (rx.ext x2).view R2.fb R2.bh
          obtain ⟨a, xs, rfl, h1, h2⟩ := Dp.list hd
          exact ⟨a, u, y, ds, j, ds[j], rfl, rfl, .lst h1 h2, ry.view R2.fb R2.bh, hsh.2, hsh.1, List.getElem?_eq_getElem hjl, hjt, fun m z' hm hz => by
            obtain ⟨hml, e⟩ := List.getElem?_eq_some_iff.mp hz
            have := hjm m hm
            rw [← e]
            simpa using this, fin_sh R2 p2 (.int _)⟩
        · exact p2.elim
      · exact p2.elim
    | _ => exact p1.elim
theorem de_count (hu : X.A.units + 65 < cLine) (ho : DE X C E ρ o ko ro) (ha : DE X C E ρ e k re)
    (hbase : attributeBase o "count" X.env (eval o X.env) = eval o X.env := by rfl)
    (hfew : ((backTo cpos (starEach [e] X.env)).all (fun x => !x.1) && (backToKw cpos (keywordEach [] X.env)).all (fun x => x.1.isSome) && decide ([e].length + ([] : List Keyword).length + (if ([] : List Keyword).isEmpty then 0 else 1) < 30)) = true := by rfl)
    (hline : (apos.endLine == cpos.line) = true := by rfl) (hs : starEach [e] X.env = (false, eval e X.env) :: starEach [] X.env := by rfl) (hplain : (backTo cpos (starEach [] X.env)).any (·.1) = false := by rfl) :
    DE X C E ρ (.Call (.Attribute o "count" apos) [e] [] cpos) .sh (ro >>= fun x => asL x >>= fun ds => re >>= fun y => countL ds y) :=
  PE_imp (pe_bm PySem.F.plainAttrs_list PySem.F.slot_list_count PySem.F.type_list_count (mt_countD hu) ho (pa_cons ha pa_nil hs) hbase hfew hline hs hplain) fun σ H Q ⟨F, B, R, p⟩ => tD1 (Z := PP X.K .sh Q) R p PP.mono fun x v F1 B1 H1 x1 R1 rx p1 => by
    cases x with
    | list ds =>
      refine ⟨tyV_list (rx.view R1.fb R1.bh), ?_⟩
      refine tD1 (Z := PP X.K .sh Q) R1 p1 PP.mono fun y u F2 B2 H2 x2 R2 ry p2 => ?_
      simp only [countL] at p2
      split at p2
      · rename_i hsh
        simp only [Bool.and_eq_true] at hsh
        have hd := (rx.ext x2).view R2.fb R2.bh
        obtain ⟨a, xs, rfl, h1, h2⟩ := Dp.list hd
        exact ⟨a, u, y, ds, rfl, rfl, .lst h1 h2, ry.view R2.fb R2.bh, hsh.2, hsh.1, fin_sh R2 p2 (.int _)⟩
      · exact p2.elim
    | _ => exact p1.elim
end
end DL
namespace DL
open PySem PySem.Spec L2
open PyProof.Rows hiding St
section
variable {X : Cx} {C : Gd} {E : XK} {ρ : Env} {e st : Expr} {k : Kd} {re : Res D} {rs : Res (Option Int)} {p2 pos : Pos} {te : TE} {ts : TO}
/-! ### l[::-1] -/
theorem pe_rev (he : PE X e te) (hs : PO X (some st) ts) :
    PE X (.Subscript e (.Slice none none (some st) p2) pos) (fun σ H Q => te σ H fun x H1 => ts σ H1 fun o H2 => o = some (-1) ∧ ∃ a xs, x = .ref a ∧ SqL X.K H2 a xs ∧ ∀ p, H2 p = none → Q (.ref p) (upd H2 p (.lst xs.reverse))) := by
  refine ⟨fun pins s σ H Q I h => ?_⟩
  refine Subscript_ (thn (he.run pins s σ H _ I h) fun v s1 ⟨x, H1, I1, r1, q1⟩ => ?_)
  refine wpAny_Slice ?_
  rw [evalPart_none]
  refine wpAny_pure (wpAny_pure ?_)
  refine thn (hs.run pins s1 σ H1 _ I1 q1) fun vu s3 ⟨u, H3, I3, pu, eu, a, xs, ex, hxs, q3⟩ => ?_
  subst eu ex
  cases r1
  obtain ⟨its, rv, hl, hz⟩ := I3.list hxs
  have hsz : its.toArray.size ≤ sizeLine := by rw [List.size_toArray, ← rv.length]; exact hz
  have I4 : Inv X pins σ H3 { s3 with heap := s3.heap.push { cls := .type "slice", data := .fields #[.none, .none, vu] } } := I3.kept (t' := s3.toks) fun b ob q => Heap.get?_push_of_some _ q
  have hl' := hl.isList.push { cls := .type "slice", data := .fields #[.none, .none, vu] }
  show wpAny (model X.prog X.w) X.A (subscriptTail e (.Slice none none (some st) p2) (.ref a) (.ref s3.heap.objs.size)) (EP X pins σ Q) X.xe { s3 with heap := s3.heap.push { cls := .type "slice", data := .fields #[.none, .none, vu] } }
  refine tail_any (ops := [.ref a, .ref s3.heap.objs.size]) (Heap.IsList.typeIs hl') slot_list_getitem.lookup ?_ (by with_unfolding_all rfl)
  refine wpAny_getItem_list_slice hl' (Heap.IsSliceOf.new ..) .none .none pu (by decide) ?_ hsz
  rw [PySem.W.krv_pick]
  refine ⟨.ref _, _, I4.laid (t' := s3.toks) (o := .lst xs.reverse) (fun b ob q => Heap.get?_push_of_some _ q) (Nat.le_refl _) ?_, rfl, q3 _ (I4.hok.fresh (Nat.le_refl _))⟩
  exact ⟨by rw [List.length_reverse]; exact hz, _, 0, (by
    have e1 : its.toArray.toList.reverse = its.reverse := by simp
    rw [e1]
    exact rv.reverse), Heap.get?_push_size _ rfl⟩
def revD (k : Kd) (o : Option Int) : D → Res D
  | .list ds => if itemsC k ds && decide (o = some (-1)) then .ok (.list ds.reverse) else .stuck
  | _ => .stuck
theorem de_rev (ha : DE X C E ρ e k re) (hs : DO X C E ρ (some st) rs) (na : noKx k = true := by rfl) :
    DE X C E ρ (.Subscript e (.Slice none none (some st) p2) pos) .ow (re >>= fun x => rs >>= fun o => revD k o x) :=
  PE_imp (pe_rev ha hs) fun σ H Q ⟨F, B, R, p⟩ => tD1 (Z := PP X.K .ow Q) R p PP.mono fun x v F1 B1 H1 x1 R1 rx p1 => tO1 (Z := PP X.K .ow Q) R1 p1 PP.mono fun o F2 B2 H2 x2 R2 p2 => by
    unfold revD at p2
    split at p2
    · rename_i ds
      split at p2
      · rename_i h
        simp only [Bool.and_eq_true, decide_eq_true_eq] at h
        obtain ⟨l, xs, rfl, h1, h2⟩ := (rx.ext x2).items R2.fb R2.bh na h.1
        exact ⟨h.2, l, xs, rfl, .inl h1, fun q hq => new_list R2 p2 h2.reverse hq⟩
      · exact p2.elim
    · exact p2.elim
end
end DL

/-! DS: plain facts about the mirrors' operations, no program in sight -/
namespace DL
open PySem PySem.Spec L2
open PyProof.Rows hiding St
open PySem.W (alike AlikeAll minD maxD dataLt)

section
variable {α β γ : Type}
@[simp] theorem addI_int (a b : Int) : addI (.int a) (.int b) = .ok (.int (a + b)) := id rfl
@[simp] theorem subI_int (a b : Int) : subI (.int a) (.int b) = .ok (.int (a - b)) := id rfl
@[simp] theorem negI_int (a : Int) : negI (.int a) = .ok (.int (-a)) := id rfl
@[simp] theorem ltI_int (a b : Int) : ltI (.int a) (.int b) = .ok (decide (a < b)) := id rfl
@[simp] theorem leI_int (a b : Int) : leI (.int a) (.int b) = .ok (decide (a ≤ b)) := id rfl
@[simp] theorem gtI_int (a b : Int) : gtI (.int a) (.int b) = .ok (decide (b < a)) := id rfl
@[simp] theorem geI_int (a b : Int) : geI (.int a) (.int b) = .ok (decide (b ≤ a)) := id rfl
@[simp] theorem absD_int (a : Int) : absD (.int a) = .ok (.int (if a < 0 then -a else a)) := id rfl
@[simp] theorem intD_int (a : Int) : intD (.int a) = .ok (.int a) := id rfl
@[simp] theorem intD_bool (b : Bool) : intD (.bool b) = .ok (.int (if b then 1 else 0)) := id rfl
@[simp] theorem min2D_int (a b : Int) : min2D (.int a) (.int b) = .ok (.int (if b < a then b else a)) := id rfl
@[simp] theorem max2D_int (a b : Int) : max2D (.int a) (.int b) = .ok (.int (if b > a then b else a)) := id rfl
@[simp] theorem lenD_list (xs : List D) : lenD (.list xs) = .ok (.int xs.length) := id rfl
@[simp] theorem lenD_tuple (xs : List D) : lenD (.tuple xs) = .ok (.int xs.length) := id rfl
@[simp] theorem toB_bool (b : Bool) : toB (.bool b) = .ok b := id rfl
@[simp] theorem bD_eq (b : Bool) : bD b = .ok (.bool b) := id rfl
@[simp] theorem notD_bool (b : Bool) : notD (.bool b) = .ok (.bool (!b)) := id rfl
@[simp] theorem toI_int (i : Int) : toI (.int i) = .ok (some i) := id rfl
theorem mulI_l {a b : Int} (h : -(2 ^ 64) < a ∧ a < 2 ^ 64) : mulI (.int a) (.int b) = .ok (.int (a * b)) := if_pos (.inl h)
theorem mulI_r {a b : Int} (h : -(2 ^ 64) < b ∧ b < 2 ^ 64) : mulI (.int a) (.int b) = .ok (.int (a * b)) := if_pos (.inr h)
theorem modI_int {a b : Int} (h : b ≠ 0) : modI (.int a) (.int b) = .ok (.int (a.fmod b)) := if_pos h
theorem fdivI_int {a b : Int} (h : b ≠ 0) (h2 : b.natAbs < 1073741824) : fdivI (.int a) (.int b) = .ok (.int (a.fdiv b)) := if_pos ⟨h, h2⟩
@[simp] theorem sumD_ints (ns : List Int) : sumD (.list (ns.map .int)) = .ok (.int ns.sum) := by simp [sumD]
@[simp] theorem allD_bools (ns : List Bool) : allD (.list (ns.map .bool)) = .ok (.bool (ns.all id)) := by simp [allD]
@[simp] theorem anyD_bools (ns : List Bool) : anyD (.list (ns.map .bool)) = .ok (.bool (ns.any id)) := by simp [anyD]
theorem sumD_map (xs : List α) (f : α → Int) : sumD (.list (xs.map fun a => .int (f a))) = .ok (.int (xs.map f).sum) := by
  have : (xs.map fun a => PyData.int (f a)) = (xs.map f).map .int := by simp
  rw [this, sumD_ints]
theorem allD_map (xs : List α) (f : α → Bool) : allD (.list (xs.map fun a => .bool (f a))) = .ok (.bool (xs.all f)) := by
  have : (xs.map fun a => PyData.bool (f a)) = (xs.map f).map .bool := by simp
  rw [this, allD_bools, List.all_map]
  rfl
theorem anyD_map (xs : List α) (f : α → Bool) : anyD (.list (xs.map fun a => .bool (f a))) = .ok (.bool (xs.any f)) := by
  have : (xs.map fun a => PyData.bool (f a)) = (xs.map f).map .bool := by simp
  rw [this, anyD_bools, List.any_map]
  rfl
theorem eqD_int (a b : Int) : eqD (.int a) (.int b) = .ok (decide (a = b)) := by
  simp [eqD, SeqAt.shaped, PyData.canLay0, PyData.depth, PyData.eqv]
  rfl
theorem neD_int (a b : Int) : neD (.int a) (.int b) = .ok (!decide (a = b)) := by
  simp [neD, SeqAt.shaped, PyData.canLay0, PyData.depth, PyData.eqv]
  rfl
theorem eqD_same {d : D} (h : d.canLay0 = true) (h2 : d.depth ≤ 64) : eqD d d = .ok true := by
  have e : SeqAt.shaped d = true := by simp [SeqAt.shaped, h, h2]
  simp [eqD, e, SeqAt.eqv_refl d h]
theorem neD_same {d : D} (h : d.canLay0 = true) (h2 : d.depth ≤ 64) : neD d d = .ok false := by
  have e : SeqAt.shaped d = true := by simp [SeqAt.shaped, h, h2]
  simp [neD, e, SeqAt.eqv_refl d h]
theorem neD_str (x : Str) : neD (.str x) (.str x) = .ok false := by simp [neD, isS, PyData.eqv]
theorem eqD_str (x : Str) : eqD (.str x) (.str x) = .ok true := by simp [eqD, isS, PyData.eqv]
@[simp] theorem isD_none (d : D) : isD d .none = .ok (isN d) := id rfl
@[simp] theorem isntD_none (d : D) : isntD d .none = .ok (!isN d) := id rfl
@[simp] theorem isN_none' : isN .none = true := id rfl
@[simp] theorem isN_int (i : Int) : isN (.int i) = false := id rfl
@[simp] theorem capK_sh (d : D) : capK .sh d = .ok d := id rfl
@[simp] theorem capK_ow (d : D) : capK .ow d = .ok d := id rfl
@[simp] theorem capK_int (k : Kd) (i : Int) : capK k (.int i) = .ok (.int i) := by cases k <;> rfl
@[simp] theorem capK_bool (k : Kd) (b : Bool) : capK k (.bool b) = .ok (.bool b) := by cases k <;> rfl
@[simp] theorem capK_none (k : Kd) : capK k .none = .ok .none := by cases k <;> rfl
theorem capK_imm (k : Kd) {d : D} (h : imm d = true) : capK k d = .ok d := by cases k <;> simp [capK, h]
theorem mkL_ok {ds : List D} (h : ds.length ≤ sizeLine) : mkL ds = .ok (.list ds) := if_pos h
theorem mkT_ok {ds : List D} (h : ds.length ≤ sizeLine) : mkT ds = .ok (.tuple ds) := if_pos h
theorem sz : sizeLine = 16777216 := by decide
@[simp] theorem mkL0 : mkL [] = .ok (.list []) := id rfl
theorem mkL1 (a : D) : mkL [a] = .ok (.list [a]) := mkL_ok (by rw [sz]; simp)
theorem mkL2 (a b : D) : mkL [a, b] = .ok (.list [a, b]) := mkL_ok (by rw [sz]; simp)
theorem mkL3 (a b c : D) : mkL [a, b, c] = .ok (.list [a, b, c]) := mkL_ok (by rw [sz]; simp)
theorem mkL4 (a b c d : D) : mkL [a, b, c, d] = .ok (.list [a, b, c, d]) := mkL_ok (by rw [sz]; simp)
@[simp] theorem mkT0 : mkT [] = .ok (.tuple []) := id rfl
theorem mkT1 (a : D) : mkT [a] = .ok (.tuple [a]) := mkT_ok (by rw [sz]; simp)
theorem mkT2 (a b : D) : mkT [a, b] = .ok (.tuple [a, b]) := mkT_ok (by rw [sz]; simp)
theorem mkT3 (a b c : D) : mkT [a, b, c] = .ok (.tuple [a, b, c]) := mkT_ok (by rw [sz]; simp)
@[simp] theorem unT2 {T U : Type} (f : D → Res T) (g : D → Res U) (a b : D) : unT 2 (unC f (un1 g)) (.tuple [a, b]) = (f a >>= fun t => g b >>= fun u => .ok (t, u)) := id rfl
@[simp] theorem unT3 {T U W : Type} (f : D → Res T) (g : D → Res U) (h : D → Res W) (a b c : D) : unT 3 (unC f (unC g (un1 h))) (.tuple [a, b, c]) = (f a >>= fun t => (g b >>= fun u => h c >>= fun w => .ok (u, w)) >>= fun u => .ok (t, u)) := id rfl
theorem seqL_ok {ds : List D} (h : ds.length ≤ sizeLine) : seqL (.list ds) = .ok ds := if_pos h
theorem seqT_ok {ds : List D} (h : ds.length ≤ sizeLine) : seqT (.tuple ds) = .ok ds := if_pos h
theorem rngL_ok {n : Nat} (h : n ≤ 1000000) : rngL (.int 0) (.int n) = .ok ((List.range n).map fun i => .int (i : Nat)) := by
  unfold rngL
  simp only
  rw [if_pos (by rw [sz]; omega)]
  simp
theorem rngL2_ok {a b : Int} (h : -1000000 ≤ a ∧ a ≤ 1000000 ∧ -1000000 ≤ b ∧ b ≤ 1000000) : rngL (.int a) (.int b) = .ok ((List.range (b - a).toNat).map fun i => .int (a + (i : Nat))) := by
  unfold rngL
  simp only
  rw [if_pos (by rw [sz]; omega)]
theorem appD_ok {ds : List D} (x : D) (h : ds.length < sizeLine) : appD (.list ds) x = .ok (.list (ds ++ [x])) := by simp [appD, h]
theorem repL_ok {xs : List D} {n : Nat} (h : n ≤ 1000000) (h2 : xs.length ≤ 16) : repL (.list xs) (.int n) = .ok (.list (List.replicate n xs).flatten) := by
  unfold repL
  simp only [Int.toNat_natCast]
  rw [if_pos]
  refine ⟨by omega, by omega, ?_⟩
  rw [sz]
  calc xs.length * n ≤ 16 * 1000000 := Nat.mul_le_mul h2 h
    _ ≤ 16777216 := by decide
theorem repL1 {x : D} {n : Nat} (h : n ≤ 1000000) : repL (.list [x]) (.int n) = .ok (.list (List.replicate n x)) := by
  rw [repL_ok h (by simp)]
  congr 2
  induction n with
  | zero => rfl
  | succ n ih => rw [List.replicate_succ, List.replicate_succ, List.flatten_cons, ih (by omega)]; rfl

/-! ### subscripts -/
theorem atI_natS {xs : List α} {i : Nat} {a : α} (h : xs[i]? = some a) : atI xs (i : Int) = some a := by
  have hl : i < xs.length := (List.getElem?_eq_some_iff.mp h).1
  unfold atI ixN
  rw [if_pos (by omega), if_pos (by omega)]
  simpa using h
theorem ixD_nat {xs : List D} {i : Nat} {a : D} (h : xs[i]? = some a) : ixD (.list xs) (.int (i : Int)) = .ok a := by
  unfold ixD
  simp only [atI_natS h]
theorem ixD_natT {xs : List D} {i : Nat} {a : D} (h : xs[i]? = some a) : ixD (.tuple xs) (.int (i : Int)) = .ok a := by
  unfold ixD
  simp only [atI_natS h]
theorem ixD_map {f : α → D} {xs : List α} {i : Nat} {a : α} (h : xs[i]? = some a) : ixD (.list (xs.map f)) (.int (i : Int)) = .ok (f a) := ixD_nat (by rw [List.getElem?_map, h]; rfl)
theorem ixD_tab {f : Nat → D} {n i : Nat} (h : i < n) : ixD (.list ((List.range n).map f)) (.int (i : Int)) = .ok (f i) := ixD_map (by rw [List.getElem?_range h])
theorem ixD_0 {a : D} {r : List D} : ixD (.list (a :: r)) (.int 0) = .ok a := ixD_nat (i := 0) rfl
theorem ixD_t0 {a : D} {r : List D} : ixD (.tuple (a :: r)) (.int 0) = .ok a := ixD_natT (i := 0) rfl
theorem ixD_t1 {a b : D} {r : List D} : ixD (.tuple (a :: b :: r)) (.int 1) = .ok b := by
  have := ixD_natT (xs := a :: b :: r) (i := 1) (a := b) rfl
  simpa using this
theorem setD_nat {xs : List D} {i : Nat} {x : D} (h : i < xs.length) : setD (.list xs) (.int (i : Int)) x = .ok (.list (xs.set i x)) := by
  have e : ixN xs.length (i : Int) = some i := by
    unfold ixN
    rw [if_pos (by omega), if_pos (by omega)]
    simp
  unfold setD
  simp only [e]
theorem cut_take {xs : List D} {n : Nat} : cutD xs none (some (n : Int)) = xs.take n := by
  unfold cutD
  simp only [HT.sIx_none, HT.sIx_nat, List.drop_zero, Nat.sub_zero]
  rw [List.take_eq_take_iff]
  omega

/-! ### comprehensions -/
theorem lcM_map {f : α → D} {g : α → List D} {F : D → Res (List D)} : ∀ {xs : List α}, (∀ a ∈ xs, F (f a) = .ok (g a)) → lcM F (xs.map f) = .ok (xs.flatMap g)
  | [], _ => rfl
  | x :: r, h => by
    rw [List.map_cons, lcM, h x (by simp), Res.bind_ok, lcM_map (xs := r) fun a ha => h a (List.mem_cons_of_mem _ ha), Res.bind_ok, List.flatMap_cons]
theorem flatMap_if {p : α → Bool} {h : α → β} : ∀ xs : List α, (xs.flatMap fun a => if p a then [h a] else []) = (xs.filter p).map h
  | [] => rfl
  | x :: r => by
    rw [List.flatMap_cons, flatMap_if r, List.filter_cons]
    cases p x <;> simp
theorem lcF_ok {t : Bool} {x : D} : lcF (.ok t) (.ok x) = .ok (if t then [x] else []) := by cases t <;> rfl
theorem lcF_f {r : Res D} : lcF (.ok false) r = .ok [] := id rfl
/-- [h a for a in xs if p a] -/
theorem lcR_fm {f : α → D} {p : α → Bool} {h : α → D} {F : D → Res (List D)} {xs : List α} (H : ∀ a ∈ xs, F (f a) = .ok (if p a then [h a] else [])) : lcR (.ok (xs.map f)) F = .ok (.list ((xs.filter p).map h)) := by
  unfold lcR
  rw [Res.bind_ok, lcM_map (g := fun a => if p a then [h a] else []) fun a ha => by rw [H a ha]; rfl, flatMap_if]
  rfl
theorem lcR_m {f : α → D} {h : α → D} {F : D → Res (List D)} {xs : List α} (H : ∀ a ∈ xs, F (f a) = .ok [h a]) : lcR (.ok (xs.map f)) F = .ok (.list (xs.map h)) := by
  rw [lcR_fm (p := fun _ => true) (h := h) fun a ha => by rw [H a ha]; rfl, List.filter_eq_self.mpr fun _ _ => rfl]
/-- [h a b for a in xs for b in ys a if p a b] -/
theorem lcR2_fm {f : α → D} {e : β → D} {ys : α → List β} {p : α → β → Bool} {h : α → β → D} {F : D → Res (List D)} {xs : List α}
    (H : ∀ a ∈ xs, F (f a) = .ok (((ys a).filter (p a)).map (h a))) (hz : (xs.flatMap fun a => ((ys a).filter (p a)).map (h a)).length ≤ sizeLine) : lcR2 (.ok (xs.map f)) F = .ok (.list (xs.flatMap fun a => ((ys a).filter (p a)).map (h a))) := by
  unfold lcR2
  rw [Res.bind_ok, lcM_map (g := fun a => ((ys a).filter (p a)).map (h a)) fun a ha => by rw [H a ha]; rfl, Res.bind_ok, mkL_ok hz]
theorem lc2F_fm {f : β → D} {p : β → Bool} {h : β → D} {F : D → Res (List D)} {xs : List β} (H : ∀ a ∈ xs, F (f a) = .ok (if p a then [h a] else [])) : lc2F (.ok true) (.ok (xs.map f)) F = .ok ((xs.filter p).map h) := by
  unfold lc2F
  simp only [Res.bind_ok, if_true]
  rw [lcM_map (g := fun a => if p a then [h a] else []) H, flatMap_if]
theorem enumD_map {f : α → D} {xs : List α} : enumD (xs.map f) = xs.zipIdx.map fun p => .tuple [.int (p.2 : Nat), f p.1] := by
  unfold enumD
  rw [List.zipIdx_map, List.map_map]
  rfl
theorem enumD_tab {f : Nat → D} {n : Nat} : enumD ((List.range n).map f) = (List.range n).map fun i => .tuple [.int (i : Nat), f i] := by
  unfold enumD
  apply List.ext_getElem?
  intro i
  simp only [List.getElem?_map, List.getElem?_zipIdx]
  by_cases h : i < n
  · simp [List.getElem?_range h]
  · simp [h]

/-! ### repr: what is shown is short -/
/-- d may be shown, in k letters at most; so deep at most -/
structure Shw (d : D) (k dp : Nat) : Prop where
  s : PyData.showable d = true
  h : PyData.hasDict d = false
  l : d.shown.length ≤ k
  dp : d.depth ≤ dp
  c : d.canLay0 = true
theorem repD_ok {d : D} {k dp : Nat} (h : Shw d k dp) (hk : k ≤ 16777216) (hd : dp ≤ 60) : repD d = .ok (.str d.shown) := by
  unfold repD
  rw [if_pos]
  have h1 := h.l
  have h2 := h.dp
  rw [h.s, h.h, decide_eq_true (by omega : d.depth ≤ 60), decide_eq_true (by rw [sz]; omega : d.shown.length ≤ sizeLine)]
  rfl
theorem Shw.mono {d : D} {k dp k' dp' : Nat} (h : Shw d k dp) (a : k ≤ k') (b : dp ≤ dp') : Shw d k' dp' := ⟨h.s, h.h, Nat.le_trans h.l a, Nat.le_trans h.dp b, h.c⟩
theorem Shw.none : Shw .none 4 0 := ⟨rfl, rfl, by decide, by decide, rfl⟩
theorem Shw.bool (b : Bool) : Shw (.bool b) 5 0 := ⟨rfl, rfl, by cases b <;> decide, by cases b <;> decide, rfl⟩
theorem Shw.int {i : Int} {k : Nat} (h0 : 0 ≤ i) (h1 : i < 10 ^ k) (hk : 0 < k := by decide) (h2 : k ≤ 50 := by decide) : Shw (.int i) k 0 := by
  refine ⟨?_, rfl, ?_, by simp [PyData.depth], rfl⟩
  · simp only [PyData.showable, decide_eq_true_eq]
    have e : i.natAbs < 10 ^ k := by
      have : (i.natAbs : Int) < ((10 ^ k : Nat) : Int) := by
        rw [Int.natAbs_of_nonneg h0]
        simpa using h1
      exact_mod_cast this
    have e2 : (10 : Nat) ^ k ≤ 16 ^ 50 := Nat.le_trans (Nat.pow_le_pow_left (by decide) k) (Nat.pow_le_pow_right (by decide) h2)
    by_cases z : i.natAbs = 0
    · rw [z]; decide
    · rw [Nat.log2_lt z]
      refine Nat.lt_of_lt_of_le e (Nat.le_trans e2 ?_)
      rw [show (16 : Nat) = 2 ^ 4 from rfl, ← Nat.pow_mul]
      exact Nat.pow_le_pow_right (by decide) (by decide)
  · exact toString_length_le h0 hk h1
theorem showableAll_of : ∀ {xs : List D}, (∀ x ∈ xs, PyData.showable x = true) → PyData.showableAll xs = true
  | [], _ => rfl
  | x :: r, h => by rw [PyData.showableAll, h x (by simp), showableAll_of fun y hy => h y (List.mem_cons_of_mem _ hy)]; rfl
theorem hasDictAll_of : ∀ {xs : List D}, (∀ x ∈ xs, PyData.hasDict x = false) → PyData.hasDictAll xs = false
  | [], _ => rfl
  | x :: r, h => by rw [PyData.hasDictAll, h x (by simp), hasDictAll_of fun y hy => h y (List.mem_cons_of_mem _ hy)]; rfl
theorem depthAll_of {n : Nat} : ∀ {xs : List D}, (∀ x ∈ xs, x.depth ≤ n) → PyData.depthAll xs ≤ n
  | [], _ => Nat.zero_le _
  | x :: r, h => by
    rw [PyData.depthAll]
    exact Nat.max_le.mpr ⟨h x (by simp), depthAll_of fun y hy => h y (List.mem_cons_of_mem _ hy)⟩
theorem canLayAll_of : ∀ {xs : List D}, (∀ x ∈ xs, x.canLay0 = true) → PyData.canLayAll0 xs = true
  | [], _ => by simp [PyData.canLayAll0]
  | x :: r, h => by rw [PyData.canLayAll0, h x (by simp), canLayAll_of fun y hy => h y (List.mem_cons_of_mem _ hy)]; rfl
theorem shownAll_map : ∀ xs : List D, PyData.shownAll xs = xs.map PyData.shown
  | [] => rfl
  | x :: r => by rw [PyData.shownAll, shownAll_map r]; rfl
theorem piled_le {k : Nat} : ∀ {ts : List Str}, (∀ t ∈ ts, t.length ≤ k) → piled ts ≤ ts.length * (k + 2)
  | [], _ => by simp [piled]
  | t :: r, h => by
    rw [piled_cons, List.length_cons, Nat.succ_mul]
    have := h t (by simp)
    have := piled_le (ts := r) fun u hu => h u (List.mem_cons_of_mem _ hu)
    omega
theorem textFrom_le : ∀ (ts : List Str) (k : Nat) (acc : Str), (textFrom k acc ts).length ≤ acc.length + piled ts
  | [], _, _ => Nat.le_add_right _ _
  | t :: r, k, acc => by
    have h := textFrom_le r (k + 1) (acc ++ (if k > 0 then ", " else "" : String) ++ t)
    rw [strLen_append, strLen_append] at h
    have e : ((if k > 0 then ", " else "" : String) : Str).length ≤ 2 := by split <;> decide
    rw [piled_cons]
    show (textFrom (k + 1) _ r).length ≤ _
    omega
theorem listText_le (ts : List Str) : (listText ts).length ≤ piled ts + 2 := by
  unfold listText
  rw [strLen_append]
  have h := textFrom_le ts 0 "["
  have e1 : (("[" : String) : Str).length = 1 := rfl
  have e2 : (("]" : String) : Str).length = 1 := rfl
  rw [e2]
  rw [e1] at h
  omega
theorem tupleText_le (ts : List Str) : (tupleText ts).length ≤ piled ts + 3 := by
  unfold tupleText
  rw [strLen_append, strLen_append]
  have e1 : (("(" : String) : Str).length = 1 := rfl
  have e2 : ((if ts.length == 1 then ",)" else ")" : String) : Str).length ≤ 2 := by split <;> decide
  rw [e1]
  by_cases h : ts = []
  · subst h; decide
  · have := join_length_add ts h
    omega
theorem Shw.list {xs : List D} {k dp n : Nat} (hn : xs.length ≤ n) (h : ∀ x ∈ xs, Shw x k dp) : Shw (.list xs) (n * (k + 2) + 2) (dp + 1) := by
  refine ⟨showableAll_of fun x hx => (h x hx).s, hasDictAll_of fun x hx => (h x hx).h, ?_, by simp only [PyData.depth]; exact Nat.succ_le_succ (depthAll_of fun x hx => (h x hx).dp), by simp only [PyData.canLay0]; exact canLayAll_of fun x hx => (h x hx).c⟩
  rw [PyData.shown, shownAll_map]
  refine Nat.le_trans (listText_le _) (Nat.add_le_add_right (Nat.le_trans (piled_le (k := k) fun t ht => ?_) ?_) 2)
  · obtain ⟨x, hx, rfl⟩ := List.mem_map.mp ht
    exact (h x hx).l
  · rw [List.length_map]
    exact Nat.mul_le_mul_right _ hn
theorem Shw.tup {xs : List D} {k dp n : Nat} (hn : xs.length ≤ n) (h : ∀ x ∈ xs, Shw x k dp) : Shw (.tuple xs) (n * (k + 2) + 3) (dp + 1) := by
  refine ⟨showableAll_of fun x hx => (h x hx).s, hasDictAll_of fun x hx => (h x hx).h, ?_, by simp only [PyData.depth]; exact Nat.succ_le_succ (depthAll_of fun x hx => (h x hx).dp), by simp only [PyData.canLay0]; exact canLayAll_of fun x hx => (h x hx).c⟩
  rw [PyData.shown, shownAll_map]
  refine Nat.le_trans (tupleText_le _) (Nat.add_le_add_right (Nat.le_trans (piled_le (k := k) fun t ht => ?_) ?_) 3)
  · obtain ⟨x, hx, rfl⟩ := List.mem_map.mp ht
    exact (h x hx).l
  · rw [List.length_map]
    exact Nat.mul_le_mul_right _ hn
theorem Shw.ne {d : D} {k dp : Nat} (h : Shw d k dp) (hd : dp ≤ 64) : neD d d = .ok false := neD_same h.c (Nat.le_trans h.dp hd)
theorem Shw.eq {d : D} {k dp : Nat} (h : Shw d k dp) (hd : dp ≤ 64) : eqD d d = .ok true := eqD_same h.c (Nat.le_trans h.dp hd)

/-! ### loops -/
/-- a loop that goes through -/
theorem forD_inv {S L : Type} {f : D → S → Res (Fl S S)} (P : Nat → S → Prop) : ∀ (l : List D) (k : Nat) (s0 : S), P k s0 → (∀ (i : Nat) (d : D) (s : S), l[i]? = some d → P (k + i) s → ∃ s', f d s = .ok (.nx s') ∧ P (k + i + 1) s') →
    ∃ s', (forD f l s0 : Res (Fl S L)) = .ok (.nx s') ∧ P (k + l.length) s'
  | [], k, s0, h0, _ => ⟨s0, rfl, h0⟩
  | d :: r, k, s0, h0, hs => by
    obtain ⟨s1, e1, p1⟩ := hs 0 d s0 rfl h0
    obtain ⟨s2, e2, p2⟩ := forD_inv P r (k + 1) s1 p1 fun i d' s hi hp => by
      have := hs (i + 1) d' s (by simpa using hi) (by rw [show k + (i + 1) = k + 1 + i by omega]; exact hp)
      rw [show k + (i + 1) + 1 = k + 1 + i + 1 by omega] at this
      exact this
    refine ⟨s2, ?_, by rw [List.length_cons, show k + (r.length + 1) = k + 1 + r.length by omega]; exact p2⟩
    rw [forD, e1]
    exact e2
/-- .. over a list of typed items, the state typed, too -/
theorem forD_map {S L σ : Type} {f : D → S → Res (Fl S S)} {e : α → D} {en : σ → S} {g : σ → α → σ} : ∀ (xs : List α) (s : σ), (∀ (a : α) (s : σ), a ∈ xs → f (e a) (en s) = .ok (.nx (en (g s a)))) →
    (forD f (xs.map e) (en s) : Res (Fl S L)) = .ok (.nx (en (xs.foldl g s)))
  | [], s, _ => rfl
  | a :: r, s, h => by
    rw [List.map_cons, forD, h a s (by simp), Res.bind_ok]
    show forD f (r.map e) (en (g s a)) = _
    rw [forD_map r (g s a) fun b s' hb => h b s' (List.mem_cons_of_mem _ hb)]
    rfl
/-- a loop that changes nothing -/
theorem forD_unit {L : Type} {f : D → Unit → Res (Fl Unit Unit)} : ∀ (l : List D), (∀ d ∈ l, f d () = .ok (.nx ())) → (forD f l () : Res (Fl Unit L)) = .ok (.nx ())
  | [], _ => rfl
  | d :: r, h => by
    rw [forD, h d (by simp), Res.bind_ok]
    exact forD_unit r fun b hb => h b (List.mem_cons_of_mem _ hb)
end
end DL

/-! DS2: plain facts on lists of encoded things -/
namespace DL
open PySem PySem.Spec L2
open PyProof.Rows hiding St
open PySem.W (alike AlikeAll minD maxD dataLt)

section
variable {α β : Type} [DecidableEq α] [DecidableEq β]
/-- things told as data: equal just if equal -/
structure Enc (f : α → D) (k : Nat) : Prop where
  eqv : ∀ a b, PyData.eqv (f a) (f b) = decide (a = b)
  lay : ∀ a, (f a).canLay0 = true
  dep : ∀ a, (f a).depth ≤ k
def eNat (n : Nat) : D := .int (n : Int)
def eInt (n : Int) : D := .int n
def eOp (o : Option Nat) : D := match o with | none => .none | some a => .int (a : Int)
def eLs (f : α → D) (xs : List α) : D := .list (xs.map f)
def ePr (f : α → D) (g : β → D) (p : α × β) : D := .tuple [f p.1, g p.2]
theorem encNat : Enc eNat 0 := ⟨fun a b => by simp [eNat, PyData.eqv]; rw [Bool.eq_iff_iff]; simp; omega, fun _ => rfl, fun _ => by simp [eNat, PyData.depth]⟩
theorem encInt : Enc eInt 0 := ⟨fun a b => by simp [eInt, PyData.eqv]; rw [Bool.eq_iff_iff]; simp, fun _ => rfl, fun _ => by simp [eInt, PyData.depth]⟩
theorem encOp : Enc eOp 0 := ⟨fun a b => by
    cases a <;> cases b <;> simp [eOp, PyData.eqv]
    rw [Bool.eq_iff_iff]
    simp
    omega, fun a => by cases a <;> rfl, fun a => by cases a <;> simp [eOp, PyData.depth]⟩
variable {f : α → D} {g : β → D} {k l : Nat}
theorem Enc.eqvAll (h : Enc f k) : ∀ xs ys : List α, PyData.eqvAll (xs.map f) (ys.map f) = decide (xs = ys)
  | [], [] => by simp [PyData.eqvAll]
  | [], _ :: _ => by simp [PyData.eqvAll]
  | _ :: _, [] => by simp [PyData.eqvAll]
  | x :: xs, y :: ys => by
    rw [List.map_cons, List.map_cons, PyData.eqvAll, h.eqv, h.eqvAll xs ys]
    by_cases q : x = y <;> simp [q]
theorem Enc.layAll (h : Enc f k) (xs : List α) : PyData.canLayAll0 (xs.map f) = true := canLayAll_of fun x hx => by
  obtain ⟨a, _, rfl⟩ := List.mem_map.mp hx
  exact h.lay a
theorem Enc.depAll (h : Enc f k) (xs : List α) : PyData.depthAll (xs.map f) ≤ k := depthAll_of fun x hx => by
  obtain ⟨a, _, rfl⟩ := List.mem_map.mp hx
  exact h.dep a
theorem Enc.ls (h : Enc f k) : Enc (eLs f) (k + 1) := ⟨fun a b => by rw [eLs, eLs, PyData.eqv, h.eqvAll], fun a => by rw [eLs, PyData.canLay0]; exact h.layAll a, fun a => by rw [eLs, PyData.depth]; exact Nat.succ_le_succ (h.depAll a)⟩
theorem Enc.pr (h : Enc f k) (h2 : Enc g l) (hl : l ≤ k) : Enc (ePr f g) (k + 1) := ⟨fun a b => by
    simp only [ePr, PyData.eqv, PyData.eqvAll, h.eqv, h2.eqv, Bool.and_true]
    rw [Bool.eq_iff_iff]
    simp [Prod.ext_iff], fun a => by simp [ePr, PyData.canLay0, PyData.canLayAll0, h.lay, h2.lay], fun a => by
    have := h.dep a.1
    have := h2.dep a.2
    simp only [ePr, PyData.depth, PyData.depthAll]
    omega⟩
theorem Enc.shaped (h : Enc f k) (hk : k ≤ 64) (a : α) : SeqAt.shaped (f a) = true := by
  simp [SeqAt.shaped, h.lay, Nat.le_trans (h.dep a) hk]
theorem Enc.shapedL (h : Enc f k) (hk : k < 64) (xs : List α) : SeqAt.shaped (.list (xs.map f)) = true := h.ls.shaped hk xs
theorem dec_any {p q : Prop} [Decidable p] [Decidable q] (h : p ↔ q) : decide p = decide q := decide_eq_decide.mpr h
theorem Enc.eqD (h : Enc f k) (hk : k ≤ 64 := by decide) (a b : α) [Decidable (a = b)] : eqD (f a) (f b) = .ok (decide (a = b)) := by
  simp only [DL.eqD, h.shaped hk, Bool.and_self, Bool.or_true, if_true, h.eqv]
  congr
theorem Enc.neD (h : Enc f k) (hk : k ≤ 64 := by decide) (a b : α) [Decidable (a = b)] : neD (f a) (f b) = .ok (!decide (a = b)) := by
  simp only [DL.neD, h.shaped hk, Bool.and_self, Bool.or_true, if_true, h.eqv]
  congr
theorem Enc.any (h : Enc f k) (xs : List α) (a : α) [Decidable (a ∈ xs)] : ((xs.map f).any fun z => PyData.eqv z (f a)) = decide (a ∈ xs) := by
  rw [List.any_map, Bool.eq_iff_iff]
  simp [List.any_eq_true, h.eqv]
theorem Enc.inL (h : Enc f k) (hk : k < 64 := by decide) (a : α) (xs : List α) [Decidable (a ∈ xs)] : inL (f a) (.list (xs.map f)) = .ok (decide (a ∈ xs)) := by
  simp only [DL.inL, h.shaped (Nat.le_of_lt hk), h.shapedL hk, Bool.and_self, if_true, h.any]
theorem Enc.ninL (h : Enc f k) (hk : k < 64 := by decide) (a : α) (xs : List α) [Decidable (a ∈ xs)] : ninL (f a) (.list (xs.map f)) = .ok (!decide (a ∈ xs)) := by
  simp only [DL.ninL, h.shaped (Nat.le_of_lt hk), h.shapedL hk, Bool.and_self, if_true, h.any]
theorem Enc.index (h : Enc f k) (hk : k < 64 := by decide) {a : α} {xs : List α} (ha : a ∈ xs) : indexL (xs.map f) (f a) = .ok (.int (xs.idxOf a : Nat)) := by
  have e : (xs.map f).findIdx? (fun z => PyData.eqv z (f a)) = some (xs.idxOf a) := by
    rw [List.findIdx?_map]
    have e2 : ((fun z => PyData.eqv z (f a)) ∘ f) = fun b => decide (b = a) := by
      funext b
      simp [h.eqv]
    rw [e2, List.findIdx?_eq_some_iff_getElem]
    have hl := List.idxOf_lt_length_of_mem ha
    refine ⟨hl, by simp, fun j hj => ?_⟩
    have := List.not_of_lt_findIdx (p := fun b => b == a) (xs := xs) (i := j) hj
    simpa using this
  simp only [indexL, h.shaped (Nat.le_of_lt hk), h.shapedL hk, Bool.and_self, if_true, e]
theorem Enc.count (h : Enc f k) (hk : k < 64 := by decide) (a : α) (xs : List α) : countL (xs.map f) (f a) = .ok (.int (xs.count a : Nat)) := by
  have e : (xs.map f).countP (fun z => PyData.eqv z (f a)) = xs.count a := by
    rw [List.countP_map, List.count]
    apply List.countP_congr
    intro b _
    simp [h.eqv]
  simp only [countL, h.shaped (Nat.le_of_lt hk), h.shapedL hk, Bool.and_self, if_true, e]
end
/-! ### sorted numbers -/
theorem sort_int (le : Int → Int → Bool) (hle : ∀ a b, le a b = decide (a ≤ b)) (xs : List Int) : (xs.map PyData.int).mergeSort (fun a b => !dataLt b a) = (xs.mergeSort le).map PyData.int := by
  have e : ∀ a b : Int, (!dataLt (.int b) (.int a)) = le a b := fun a b => by
    rw [PySem.W.dataLt_int, hle]
    by_cases h : b < a
    · simp [h]
    · simp [h]; omega
  rw [List.map_mergeSort]
  intro a _ b _
  exact (e a b).symm
theorem sort_nat (xs : List Nat) : (xs.map eNat).mergeSort (fun a b => !dataLt b a) = (xs.mergeSort fun a b => decide (a ≤ b)).map eNat := by
  rw [List.map_mergeSort]
  intro a _ b _
  show decide (a ≤ b) = !dataLt (.int b) (.int a)
  rw [PySem.W.dataLt_int]
  by_cases h : b < a
  · have h2 : (b : Int) < a := by omega
    simp [h2]; omega
  · have h2 : ¬ (b : Int) < a := by omega
    simp [h2]; omega
theorem sortB_nat {xs : List Nat} (hz : xs.length ≤ 1000000) : sortB (xs.map eNat) = true := by
  simp only [sortB, Bool.and_eq_true, Bool.or_eq_true, List.all_eq_true, decide_eq_true_eq, List.mem_map]
  refine ⟨⟨⟨?_, .inr ?_⟩, by rw [List.length_map, sz]; omega⟩, ?_⟩
  · rintro x ⟨a, _, rfl⟩ y ⟨b, _, rfl⟩
    simp [eNat, alike]
  · rintro x ⟨a, _, rfl⟩
    rfl
  · rintro x ⟨a, _, rfl⟩
    simp [eNat, PyData.depth]
theorem sortD_nat {xs : List Nat} (hz : xs.length ≤ 1000000) : sortD .sh (.list (xs.map eNat)) = .ok (.list ((xs.mergeSort fun a b => decide (a ≤ b)).map eNat)) := by
  have h : sortD .sh (.list (xs.map eNat)) = .ok (.list ((xs.map eNat).mergeSort fun a b => !dataLt b a)) := by
    show (if _ then _ else _) = _
    rw [if_pos]
    rw [sortB_nat hz]
    rfl
  rw [h, sort_nat]
theorem sorted_perm_range {xs : List Nat} {n : Nat} (h : xs.Perm (List.range n)) : (xs.mergeSort fun a b => decide (a ≤ b)) = List.range n := by
  refine List.Perm.eq_of_pairwise (le := fun a b => a ≤ b) (fun a b _ _ h1 h2 => Nat.le_antisymm h1 h2) ?_ ?_ ((List.mergeSort_perm _ _).trans h)
  · have := List.pairwise_mergeSort (le := fun a b : Nat => decide (a ≤ b)) (fun a b c h1 h2 => by simp at *; omega) (fun a b => by simp; omega) xs
    exact this.imp fun h => by simpa using h
  · exact List.pairwise_lt_range.imp fun h => Nat.le_of_lt h
theorem lrng {n : Nat} (h : n ≤ 1000000) : (rngL (.int 0) (.int n) >>= fun l => (.ok (.list l) : Res D)) = .ok (.list ((List.range n).map eNat)) := by
  rw [rngL_ok h]
  rfl
theorem listD_ok {t : Bool} {ds : List D} : listD t .sh (.list ds) = .ok (.list ds) := by cases t <;> rfl
theorem asL_ok (ds : List D) : asL (.list ds) = .ok ds := id rfl
theorem slc_take {t : Bool} {ds : List D} (n : Nat) : slcL t .sh (.list ds) none (some (n : Int)) = .ok (.list (ds.take n)) := by
  have h : slcL t .sh (.list ds) none (some (n : Int)) = .ok (.list (DL.cutD ds none (some (n : Int)))) := by cases t <;> rfl
  rw [h, cut_take]
theorem cut_drop {xs : List D} (n : Nat) : DL.cutD xs (some (n : Int)) none = xs.drop n := by
  unfold DL.cutD
  simp only [HT.sIx_none, HT.sIx_nat]
  by_cases h : n ≤ xs.length
  · rw [Nat.min_eq_left h, List.take_of_length_le (by rw [List.length_drop]; omega)]
  · rw [Nat.min_eq_right (by omega), List.drop_length, List.drop_eq_nil_of_le (by omega)]
    simp
theorem slc_drop {t : Bool} {ds : List D} (n : Nat) : slcL t .sh (.list ds) (some (n : Int)) none = .ok (.list (ds.drop n)) := by
  have h : slcL t .sh (.list ds) (some (n : Int)) none = .ok (.list (DL.cutD ds (some (n : Int)) none)) := by cases t <;> rfl
  rw [h, cut_drop]
theorem cut_init {xs : List D} : DL.cutD xs none (some (-1)) = xs.dropLast := by
  unfold DL.cutD
  have e : HT.sIx xs.length xs.length (some (-1)) = xs.length - 1 := by
    simp [HT.sIx]
    omega
  rw [e, HT.sIx_none, List.drop_zero, Nat.sub_zero, List.dropLast_eq_take]
theorem slc_init {t : Bool} {ds : List D} : slcL t .sh (.list ds) none (some (-1)) = .ok (.list ds.dropLast) := by
  have h : slcL t .sh (.list ds) none (some (-1)) = .ok (.list (DL.cutD ds none (some (-1)))) := by cases t <;> rfl
  rw [h, cut_init]
theorem ixD_last {xs : List D} {a : D} (h : xs.getLast? = some a) : ixD (.list xs) (.int (-1)) = .ok a := by
  have hl : xs ≠ [] := fun e => by rw [e] at h; cases h
  have hp : 0 < xs.length := List.length_pos_iff.mpr hl
  have e : atI xs (-1) = some a := by
    unfold atI ixN
    rw [if_neg (by decide), if_pos (by omega)]
    have e2 : ((-1 : Int) + (xs.length : Int)).toNat = xs.length - 1 := by omega
    simp only [e2, Option.bind_some]
    rw [← List.getLast?_eq_getElem?]
    exact h
  unfold ixD
  simp only [e]
/-! ### lists of numbers below t -/
theorem nd_len : ∀ {t : Nat} {xs : List Nat}, xs.Nodup → (∀ x ∈ xs, x < t) → xs.length ≤ t
  | 0, xs, _, h => by
    cases xs with
    | nil => exact Nat.le_refl _
    | cons x r => exact absurd (h x (by simp)) (Nat.not_lt_zero _)
  | t + 1, xs, nd, h => by
    have h1 : (xs.erase t).length ≤ t := nd_len (nd.erase t) fun x hx => by
      have h2 := h x (List.mem_of_mem_erase hx)
      have h3 : x ≠ t := fun e => by
        subst e
        exact (List.Nodup.not_mem_erase nd) hx
      omega
    by_cases q : t ∈ xs
    · rw [List.length_erase_of_mem q] at h1
      omega
    · rw [List.erase_of_not_mem q] at h1
      omega
theorem nd_inj {α : Type} {xs : List α} (nd : xs.Nodup) {i j : Nat} (hi : i < xs.length) (hj : j < xs.length) (e : xs[i] = xs[j]) : i = j := by
  rcases Nat.lt_trichotomy i j with h | h | h
  · exact absurd e (List.pairwise_iff_getElem.mp nd i j hi hj h)
  · exact h
  · exact absurd e.symm (List.pairwise_iff_getElem.mp nd j i hj hi h)
theorem not_mem_take {α : Type} {xs : List α} (nd : xs.Nodup) {i : Nat} (hi : i < xs.length) : xs[i] ∉ xs.take i := fun hc => by
  rw [List.mem_take_iff_getElem] at hc
  obtain ⟨j, hj, e⟩ := hc
  have := nd_inj nd (by omega) hi e
  omega
end DL

namespace K42
open PySem PySem.Spec L2 DL
open PyProof.Rows hiding St
def topS (i : Nat) : Stmt := PySem.Challenge.pw_pairsbywish_k42_whole_turns_with_claims.main.body.getD i (.Pass ⟨0, 0, 0, 0⟩)
section
variable {P : Program} {w : World} {K : PySem.W.Frag} {mg : Str → Option Value} {base : Heap}
/-! ### _law_draws -/
abbrev s__law_draws : Stmt := topS 23
abbrev n__law_draws : List Str := ["script", "draws", "k", "rest", "turn", "stirred"]
theorem sc__law_draws : FnScope n__law_draws ["script"] (defScope s__law_draws) := ⟨rfl, rfl, rfl, by decide +kernel, rfl, by decide +kernel, by decide +kernel⟩
def b__law_draws (d1 : D) : Res (Fl Unit Empty) :=
  (((Res.ok []) >>= mkL) >>= fun v1 => ((((Res.ok (PyData.int 63)) >>= fun x2 => ((Res.ok d1) >>= lenD) >>= fun x3 => min2D x2 x3) >>= fun x4 => rngL (.int 0) x4) >>= fun l => Fl.seq (forD (fun q8 (s6 : D) => (Res.ok q8) >>= fun (u9 : D) => ((((Res.ok d1) >>= fun x10 => (Res.ok u9) >>= fun x11 => ixD x10 x11) >>= absD) >>= fun v12 => (((Res.ok v12) >>= fun x15 => ((Res.ok (PyData.int 10)) >>= fun x13 => (Res.ok (PyData.int 18)) >>= fun x14 => powI x13 x14) >>= fun x16 => geI x15 x16) >>= fun t17 => Fl.seq (if t17 then (((Res.ok (PyData.int 60)) >>= fun x19 => rngL (.int 0) x19) >>= fun l => Fl.seq (forD (fun q23 (s21 : D × D) => (Res.ok q23) >>= fun (u24 : D) => (((Res.ok s21.2) >>= fun x25 => (Res.ok (PyData.int 0)) >>= fun x26 => gtI x25 x26) >>= fun t27 => Fl.seq (if t27 then ((((Res.ok s21.2) >>= intD) >>= fun x31 => (Res.ok (PyData.int 65536)) >>= fun x32 => modI x31 x32) >>= fun x30 => appD s21.1 x30 >>= fun v29 => (((Res.ok s21.2) >>= fun x33 => (Res.ok (PyData.int 65536)) >>= fun x34 => fdivI x33 x34) >>= fun v35 => (Res.ok (Fl.nx (v29, v35))))) else (Res.ok (Fl.nx (s21.1, s21.2)))) (fun (s28 : D × D) => (Res.ok (Fl.nx (s28.1, s28.2)))))) l (s6, v12)) (fun (s21 : D × D) => (Res.ok (Fl.nx s21.1)))) else ((((((Res.ok v12) >>= fun x36 => (Res.ok (PyData.int 48271)) >>= fun x37 => mulI x36 x37) >>= fun x42 => (((Res.ok u9) >>= fun x38 => (Res.ok (PyData.int 1)) >>= fun x39 => addI x38 x39) >>= fun x40 => (Res.ok (PyData.int 69621)) >>= fun x41 => mulI x40 x41) >>= fun x43 => addI x42 x43) >>= intD) >>= fun x44 => (Res.ok (PyData.int 2147483647)) >>= fun x45 => modI x44 x45) >>= fun v46 => (((((((Res.ok v46) >>= fun x47 => (Res.ok (PyData.int 16807)) >>= fun x48 => mulI x47 x48) >>= fun x51 => ((Res.ok (PyData.int 11)) >>= fun x49 => (Res.ok u9) >>= fun x50 => mulI x49 x50) >>= fun x52 => addI x51 x52) >>= fun x53 => (Res.ok (PyData.int 5)) >>= fun x54 => addI x53 x54) >>= intD) >>= fun x55 => (Res.ok (PyData.int 2147483629)) >>= fun x56 => modI x55 x56) >>= fun v57 => ((((Res.ok v57) >>= intD) >>= fun x60 => (Res.ok (PyData.int 65536)) >>= fun x61 => modI x60 x61) >>= fun x59 => appD s6 x59 >>= fun v58 => (((((Res.ok v57) >>= fun x64 => (Res.ok (PyData.int 65536)) >>= fun x65 => fdivI x64 x65) >>= intD) >>= fun x66 => (Res.ok (PyData.int 32768)) >>= fun x67 => modI x66 x67) >>= fun x63 => appD v58 x63 >>= fun v62 => (Res.ok (Fl.nx v62))))))) (fun (s18 : D) => (Res.ok (Fl.nx s18)))))) l v1) (fun (s6 : D) => (Res.ok (Fl.rt s6)))))
def m__law_draws (ds : List D) : Res D := fnR .ow (rd1 b__law_draws ds)
theorem ok__law_draws {f : Addr} {fd : FuncData} (Fn : Fun K "_law_draws" "_law_draws" s__law_draws f fd)
    (z_range : mg "range" = none)
    (z_min : mg "min" = none)
    (z_len : mg "len" = none)
    (z_abs : mg "abs" = none)
    (z_int : mg "int" = none) :
    FG P w K mg base 1 f fd ["script"] (spD K mg [.kx] .ow m__law_draws) := by
  have nd := sc__law_draws.nd
  refine fn1 (b := b__law_draws) Fn sc__law_draws rfl (by decide) rfl fun cdv A outer s H F E d1 hr => ?_
  unfold b__law_draws
  exact (db_set (i := 1) nd (de_list (t := true) dl_nil) (fun v1 => (db_for (b := true) (le := fun (s6 : D) => [some (.kx, d1), some (.ow, s6), none, none, none, none]) v1 passOwnF rfl (di_rng1 z_range (de_min2 rfl z_min de_int (de_len z_len (de_name (i := 0) (k := .kx))))) (.keep (.keep (.keep (.keep (.keep (.keep (.nil))))))) (fun s6 => (dg_name (b := true) (i := 2) nd)) nx_ok (fun s6 u9 => (db_set (i := 3) nd (de_abs z_abs (de_ix (de_name (i := 0) (k := .kx)) (de_name (i := 2) (k := .sh)))) (fun v12 => (db_if (po1 := fun (s18 : D) => [some (.kx, d1), some (.ow, s18), none, none, none, none]) (dt_c c_ge (de_name (i := 3) (k := .sh)) (de_pow de_int de_int)) (db_for (b := true) (le := fun (s21 : D × D) => [some (.kx, d1), some (.ow, s21.1), none, some (.sh, s21.2), none, none]) (s6, v12) passOwnF rfl (di_rng1 z_range de_int) (.keep (.keep (.drop (.keep (.keep (.keep (.nil))))))) (fun s21 => (dg_name (b := true) (i := 4) nd)) nx_ok (fun s21 u24 => (db_if (po1 := fun (s28 : D × D) => [some (.kx, d1), some (.ow, s28.1), none, some (.sh, s28.2), none, none]) (dt_c c_gt (de_name (i := 3) (k := .sh)) de_int) (db_app (t := true) (i := 1) (de_mod (de_int1 z_int (de_name (i := 3) (k := .sh))) de_int) (fun v29 => (db_set (i := 3) nd (de_fdiv (de_name (i := 3) (k := .sh)) de_int) (fun v35 => (db_nil (.keep (.keep (.keep (.keep (.drop (.keep (.nil)))))))))))) (db_nil (.keep (.keep (.keep (.keep (.drop (.keep (.nil)))))))) (fun s28 => (db_nil (.keep (.keep (.keep (.keep (.keep (.keep (.nil))))))))))) (fun s21 => (db_nil (.keep (.keep (.keep (.drop (.keep (.keep (.nil)))))))))) (db_set (i := 5) nd (de_mod (de_int1 z_int (de_add (de_mul (de_name (i := 3) (k := .sh)) de_int) (de_mul (de_add (de_name (i := 2) (k := .sh)) de_int) de_int))) de_int) (fun v46 => (db_set (i := 5) nd (de_mod (de_int1 z_int (de_add (de_add (de_mul (de_name (i := 5) (k := .sh)) de_int) (de_mul de_int (de_name (i := 2) (k := .sh)))) de_int)) de_int) (fun v57 => (db_app (t := true) (i := 1) (de_mod (de_int1 z_int (de_name (i := 5) (k := .sh))) de_int) (fun v58 => (db_app (t := true) (i := 1) (de_mod (de_int1 z_int (de_fdiv (de_name (i := 5) (k := .sh)) de_int)) de_int) (fun v62 => (db_nil (.keep (.keep (.drop (.drop (.keep (.drop (.nil)))))))))))))))) (fun s18 => (db_nil (.keep (.keep (.keep (.keep (.keep (.keep (.nil))))))))))))) (fun s6 => (db_retO (i := 1))))))

/-! ### _law_mix -/
abbrev s__law_mix : Stmt := topS 24
abbrev n__law_mix : List Str := ["draws", "k", "many", "cell"]
theorem sc__law_mix : FnScope n__law_mix ["draws", "k", "many"] (defScope s__law_mix) := ⟨rfl, rfl, rfl, by decide +kernel, rfl, by decide +kernel, by decide +kernel⟩
def b__law_mix (d1 : D) (d2 : D) (d3 : D) : Res (Fl Unit Empty) :=
  ((Res.ok (PyData.int 0)) >>= fun v1 => ((((Res.ok d1) >>= lenD) >>= fun x2 => (Res.ok (PyData.int 0)) >>= fun x3 => gtI x2 x3) >>= fun t4 => Fl.seq (if t4 then (((Res.ok d1) >>= fun x8 => (((Res.ok d2) >>= intD) >>= fun x6 => ((Res.ok d1) >>= lenD) >>= fun x7 => modI x6 x7) >>= fun x9 => ixD x8 x9) >>= fun v10 => (Res.ok (Fl.nx v10))) else (Res.ok (Fl.nx v1))) (fun (s5 : D) => (((Res.ok d2) >>= fun x11 => ((Res.ok d1) >>= lenD) >>= fun x12 => ltI x11 x12) >>= fun t13 => if t13 then Fl.seq (((((Res.ok s5) >>= intD) >>= fun x14 => (Res.ok d3) >>= fun x15 => modI x14 x15) >>= fun v16 => Res.ok (Fl.rt v16)) : Res (Fl Empty _)) (fun s => nomatch s) else ((((((((Res.ok s5) >>= fun x17 => (Res.ok (PyData.int 7919)) >>= fun x18 => mulI x17 x18) >>= fun x21 => ((Res.ok d2) >>= fun x19 => (Res.ok (PyData.int 104729)) >>= fun x20 => mulI x19 x20) >>= fun x22 => addI x21 x22) >>= intD) >>= fun x23 => (Res.ok (PyData.int 3)) >>= fun x24 => fdivI x23 x24) >>= intD) >>= fun x25 => (Res.ok d3) >>= fun x26 => modI x25 x26) >>= fun v27 => Res.ok (Fl.rt v27))))))
def m__law_mix (ds : List D) : Res D := fnR .sh (rd3 b__law_mix ds)
theorem ok__law_mix {f : Addr} {fd : FuncData} (Fn : Fun K "_law_mix" "_law_mix" s__law_mix f fd)
    (z_len : mg "len" = none)
    (z_int : mg "int" = none) :
    FG P w K mg base 1 f fd ["draws", "k", "many"] (spD K mg [.sh, .sh, .sh] .sh m__law_mix) := by
  have nd := sc__law_mix.nd
  refine fn3 (b := b__law_mix) Fn sc__law_mix rfl (by decide) rfl fun cdv A outer s H F E d1 d2 d3 hr => ?_
  unfold b__law_mix
  exact (db_set (i := 3) nd de_int (fun v1 => (db_if (po1 := fun (s5 : D) => [some (.sh, d1), some (.sh, d2), some (.sh, d3), some (.sh, s5)]) (dt_c c_gt (de_len z_len (de_name (i := 0) (k := .sh))) de_int) (db_set (i := 3) nd (de_ix (de_name (i := 0) (k := .sh)) (de_mod (de_int1 z_int (de_name (i := 1) (k := .sh))) (de_len z_len (de_name (i := 0) (k := .sh))))) (fun v10 => (db_nil (.keep (.keep (.keep (.keep (.nil)))))))) (db_nil (.keep (.keep (.keep (.keep (.nil)))))) (fun s5 => (db_ifr (poE := fun s => nomatch s) (dt_c c_lt (de_name (i := 1) (k := .sh)) (de_len z_len (de_name (i := 0) (k := .sh)))) (db_ret (de_mod (de_int1 z_int (de_name (i := 3) (k := .sh))) (de_name (i := 2) (k := .sh)))) (db_ret (de_mod (de_int1 z_int (de_fdiv (de_int1 z_int (de_add (de_mul (de_name (i := 3) (k := .sh)) de_int) (de_mul (de_name (i := 1) (k := .sh)) de_int))) de_int)) (de_name (i := 2) (k := .sh)))))))))

/-! ### _law_order -/
abbrev s__law_order : Stmt := topS 26
abbrev n__law_order : List Str := ["draws", "first", "many", "left", "told", "k"]
theorem sc__law_order : FnScope n__law_order ["draws", "first", "many"] (defScope s__law_order) := ⟨rfl, rfl, rfl, by decide +kernel, rfl, by decide +kernel, by decide +kernel⟩
def b__law_order (d1 : D) (d2 : D) (d3 : D) : Res (Fl Unit Empty) :=
  ((((Res.ok d3) >>= fun x1 => rngL (.int 0) x1 >>= fun l => Res.ok (.list l)) >>= capK .ow) >>= fun v2 => (((Res.ok []) >>= mkL) >>= fun v3 => (Fl.seq (whileD (fun (s4 : D × D) => ((Res.ok s4.1) >>= fun x5 => ((Res.ok []) >>= mkL) >>= fun x6 => neD x5 x6)) (fun (s4 : D × D) => ((((Res.ok d1) >>= fun x13 => (((Res.ok d2) >>= fun x7 => ((Res.ok s4.2) >>= lenD) >>= fun x8 => addI x7 x8) >>= fun x11 => (((Res.ok s4.1) >>= lenD) >>= fun x9 => (Res.ok []) >>= fun x10 => Res.ok (x9 :: x10)) >>= fun x12 => Res.ok (x11 :: x12)) >>= fun x14 => Res.ok (x13 :: x14)) >>= m__law_mix) >>= fun v15 => (((Res.ok s4.1) >>= fun x18 => (Res.ok v15) >>= fun x19 => ixD x18 x19) >>= fun x17 => appD s4.2 x17 >>= fun v16 => (((((Res.ok s4.1) >>= fun x20 => (Res.ok none) >>= fun x21 => ((Res.ok v15) >>= toI) >>= fun x22 => slcL true .sh x20 x21 x22) >>= fun x28 => ((Res.ok s4.1) >>= fun x25 => (((Res.ok v15) >>= fun x23 => (Res.ok (PyData.int 1)) >>= fun x24 => addI x23 x24) >>= toI) >>= fun x26 => (Res.ok none) >>= fun x27 => slcL true .sh x25 x26 x27) >>= fun x29 => addL .ow .ow x28 x29) >>= capK .ow) >>= fun v30 => (Res.ok (Fl.nx (v30, v16))))))) fuelN (v2, v3)) (fun (s4 : D × D) => (Res.ok (Fl.rt s4.2))))))
def m__law_order (ds : List D) : Res D := fnR .ow (rd3 b__law_order ds)
theorem ok__law_order {f : Addr} {fd : FuncData} (Fn : Fun K "_law_order" "_law_order" s__law_order f fd)
    {f__law_mix : Addr} {fd__law_mix : FuncData} (G__law_mix : FG P w K mg base 1 f__law_mix fd__law_mix ["draws", "k", "many"] (spD K mg [.sh, .sh, .sh] .sh m__law_mix)) (mg__law_mix : mg "_law_mix" = some (.ref f__law_mix)) (kp__law_mix : PySem.W.keepIn K (.ref f__law_mix) = true) (bd__law_mix : Binds K fd__law_mix ["draws", "k", "many"] [])
    (z_list : mg "list" = none)
    (z_range : mg "range" = none)
    (z_len : mg "len" = none) :
    FG P w K mg base 2 f fd ["draws", "first", "many"] (spD K mg [.sh, .sh, .sh] .ow m__law_order) := by
  have nd := sc__law_order.nd
  refine fn3 (b := b__law_order) Fn sc__law_order rfl (by decide) rfl fun cdv A outer s H F E d1 d2 d3 hr => ?_
  unfold b__law_order
  exact (db_set (i := 3) nd (de_sh (de_lrng1 rfl z_list z_range (de_name (i := 2) (k := .sh)))) (fun v2 => (db_set (i := 4) nd (de_list (t := true) dl_nil) (fun v3 => (db_while (le := fun (s4 : D × D) => [some (.sh, d1), some (.sh, d2), none, some (.sh, s4.1), some (.ow, s4.2), none]) fuelN (v2, v3) passOwnF (.keep (.keep (.drop (.keep (.keep (.keep (.nil))))))) (fun s4 => (dt_c (c_ne hr.un64) (de_name (i := 3) (k := .sh)) (de_list (t := true) dl_nil))) (fun s4 => (db_set (i := 5) nd (de_call (G__law_mix.mono (by decide)) hr mg__law_mix kp__law_mix bd__law_mix passF (da_cons (de_name (i := 0) (k := .sh)) (da_cons (de_add (de_name (i := 1) (k := .sh)) (de_len z_len (de_name (i := 4) (k := .ow)))) (da_cons (de_len z_len (de_name (i := 3) (k := .sh))) da_nil)))) (fun v15 => (db_app (t := true) (i := 4) (de_ix (de_name (i := 3) (k := .sh)) (de_name (i := 5) (k := .sh))) (fun v16 => (db_set (i := 3) nd (de_sh (de_addL (de_slice (de_name (i := 3) (k := .sh)) do_none (do_some (de_name (i := 5) (k := .sh)))) (de_slice (de_name (i := 3) (k := .sh)) (do_some (de_add (de_name (i := 5) (k := .sh)) de_int)) do_none))) (fun v30 => (db_nil (.keep (.keep (.keep (.keep (.keep (.drop (.nil))))))))))))))) (fun s4 => (db_retO (i := 4))))))))

/-! ### _law_seekers -/
abbrev s__law_seekers : Stmt := topS 27
abbrev n__law_seekers : List Str := ["draws", "first", "most", "wide", "things", "lists", "t", "told"]
theorem sc__law_seekers : FnScope n__law_seekers ["draws", "first", "most", "wide"] (defScope s__law_seekers) := ⟨rfl, rfl, rfl, by decide +kernel, rfl, by decide +kernel, by decide +kernel⟩
def b__law_seekers (d1 : D) (d2 : D) (d3 : D) (d4 : D) : Res (Fl Unit Empty) :=
  (((Res.ok (PyData.int 1)) >>= fun x7 => (((Res.ok d1) >>= fun x5 => ((Res.ok d2) >>= fun x3 => ((Res.ok d4) >>= fun x1 => (Res.ok []) >>= fun x2 => Res.ok (x1 :: x2)) >>= fun x4 => Res.ok (x3 :: x4)) >>= fun x6 => Res.ok (x5 :: x6)) >>= m__law_mix) >>= fun x8 => addI x7 x8) >>= fun v9 => (((Res.ok []) >>= mkL) >>= fun v10 => ((((Res.ok (PyData.int 1)) >>= fun x19 => (((Res.ok d1) >>= fun x17 => (((Res.ok d2) >>= fun x11 => (Res.ok (PyData.int 1)) >>= fun x12 => addI x11 x12) >>= fun x15 => ((Res.ok d3) >>= fun x13 => (Res.ok []) >>= fun x14 => Res.ok (x13 :: x14)) >>= fun x16 => Res.ok (x15 :: x16)) >>= fun x18 => Res.ok (x17 :: x18)) >>= m__law_mix) >>= fun x20 => addI x19 x20) >>= fun x21 => rngL (.int 0) x21) >>= fun l => Fl.seq (forD (fun q25 (s23 : D) => (Res.ok q25) >>= fun (u26 : D) => (((((Res.ok d1) >>= fun x37 => ((((Res.ok d2) >>= fun x27 => (Res.ok (PyData.int 2)) >>= fun x28 => addI x27 x28) >>= fun x31 => ((Res.ok (PyData.int 12)) >>= fun x29 => (Res.ok u26) >>= fun x30 => mulI x29 x30) >>= fun x32 => addI x31 x32) >>= fun x35 => ((Res.ok v9) >>= fun x33 => (Res.ok []) >>= fun x34 => Res.ok (x33 :: x34)) >>= fun x36 => Res.ok (x35 :: x36)) >>= fun x38 => Res.ok (x37 :: x38)) >>= m__law_order) >>= capK .ow) >>= fun v39 => ((((Res.ok v39) >>= fun x74 => (Res.ok none) >>= fun x75 => (((((Res.ok v9) >>= fun x58 => ((((Res.ok d1) >>= fun x56 => ((((Res.ok d2) >>= fun x44 => (Res.ok (PyData.int 10)) >>= fun x45 => addI x44 x45) >>= fun x48 => ((Res.ok (PyData.int 12)) >>= fun x46 => (Res.ok u26) >>= fun x47 => mulI x46 x47) >>= fun x49 => addI x48 x49) >>= fun x54 => (((Res.ok v9) >>= fun x50 => (Res.ok (PyData.int 1)) >>= fun x51 => addI x50 x51) >>= fun x52 => (Res.ok []) >>= fun x53 => Res.ok (x52 :: x53)) >>= fun x55 => Res.ok (x54 :: x55)) >>= fun x57 => Res.ok (x56 :: x57)) >>= m__law_mix) >>= fun x42 => (Res.ok []) >>= fun x43 => Res.ok (x42 :: x43)) >>= fun x59 => Res.ok (x58 :: x59)) >>= mkL) >>= fun x72 => (((Res.ok d1) >>= fun x70 => ((((Res.ok d2) >>= fun x60 => (Res.ok (PyData.int 11)) >>= fun x61 => addI x60 x61) >>= fun x64 => ((Res.ok (PyData.int 12)) >>= fun x62 => (Res.ok u26) >>= fun x63 => mulI x62 x63) >>= fun x65 => addI x64 x65) >>= fun x68 => ((Res.ok (PyData.int 2)) >>= fun x66 => (Res.ok []) >>= fun x67 => Res.ok (x66 :: x67)) >>= fun x69 => Res.ok (x68 :: x69)) >>= fun x71 => Res.ok (x70 :: x71)) >>= m__law_mix) >>= fun x73 => ixD x72 x73) >>= toI) >>= fun x76 => slcL true .sh x74 x75 x76) >>= capK .ow) >>= fun x41 => appD s23 x41 >>= fun v40 => (Res.ok (Fl.nx v40))))) l v10) (fun (s23 : D) => ((((Res.ok s23) >>= fun x79 => ((Res.ok v9) >>= fun x77 => (Res.ok []) >>= fun x78 => Res.ok (x77 :: x78)) >>= fun x80 => Res.ok (x79 :: x80)) >>= mkT) >>= fun v81 => Res.ok (Fl.rt v81))))))
def m__law_seekers (ds : List D) : Res D := fnR .sh (rd4 b__law_seekers ds)
theorem ok__law_seekers {f : Addr} {fd : FuncData} (Fn : Fun K "_law_seekers" "_law_seekers" s__law_seekers f fd)
    {f__law_mix : Addr} {fd__law_mix : FuncData} (G__law_mix : FG P w K mg base 1 f__law_mix fd__law_mix ["draws", "k", "many"] (spD K mg [.sh, .sh, .sh] .sh m__law_mix)) (mg__law_mix : mg "_law_mix" = some (.ref f__law_mix)) (kp__law_mix : PySem.W.keepIn K (.ref f__law_mix) = true) (bd__law_mix : Binds K fd__law_mix ["draws", "k", "many"] [])
    {f__law_order : Addr} {fd__law_order : FuncData} (G__law_order : FG P w K mg base 2 f__law_order fd__law_order ["draws", "first", "many"] (spD K mg [.sh, .sh, .sh] .ow m__law_order)) (mg__law_order : mg "_law_order" = some (.ref f__law_order)) (kp__law_order : PySem.W.keepIn K (.ref f__law_order) = true) (bd__law_order : Binds K fd__law_order ["draws", "first", "many"] [])
    (z_range : mg "range" = none) :
    FG P w K mg base 3 f fd ["draws", "first", "most", "wide"] (spD K mg [.sh, .sh, .sh, .sh] .sh m__law_seekers) := by
  have nd := sc__law_seekers.nd
  refine fn4 (b := b__law_seekers) Fn sc__law_seekers rfl (by decide) rfl fun cdv A outer s H F E d1 d2 d3 d4 hr => ?_
  unfold b__law_seekers
  exact (db_set (i := 4) nd (de_add de_int (de_call (G__law_mix.mono (by decide)) hr mg__law_mix kp__law_mix bd__law_mix passF (da_cons (de_name (i := 0) (k := .sh)) (da_cons (de_name (i := 1) (k := .sh)) (da_cons (de_name (i := 3) (k := .sh)) da_nil))))) (fun v9 => (db_set (i := 5) nd (de_list (t := true) dl_nil) (fun v10 => (db_for (b := true) (le := fun (s23 : D) => [some (.sh, d1), some (.sh, d2), none, none, some (.sh, v9), some (.ow, s23), none, none]) v10 passOwnF rfl (di_rng1 z_range (de_add de_int (de_call (G__law_mix.mono (by decide)) hr mg__law_mix kp__law_mix bd__law_mix passF (da_cons (de_name (i := 0) (k := .sh)) (da_cons (de_add (de_name (i := 1) (k := .sh)) de_int) (da_cons (de_name (i := 2) (k := .sh)) da_nil)))))) (.keep (.keep (.drop (.drop (.keep (.keep (.keep (.keep (.nil))))))))) (fun s23 => (dg_name (b := true) (i := 6) nd)) nx_ok (fun s23 u26 => (db_set (i := 7) nd (de_sh (de_call (G__law_order.mono (by decide)) hr mg__law_order kp__law_order bd__law_order passF (da_cons (de_name (i := 0) (k := .sh)) (da_cons (de_add (de_add (de_name (i := 1) (k := .sh)) de_int) (de_mul de_int (de_name (i := 6) (k := .sh)))) (da_cons (de_name (i := 4) (k := .sh)) da_nil))))) (fun v39 => (db_app (t := true) (i := 5) (de_sh (de_slice (de_name (i := 7) (k := .sh)) do_none (do_some (de_ix (de_list (t := true) (dl_cons (t := true) (de_name (i := 4) (k := .sh)) (dl_cons (t := true) (de_call (G__law_mix.mono (by decide)) hr mg__law_mix kp__law_mix bd__law_mix passF (da_cons (de_name (i := 0) (k := .sh)) (da_cons (de_add (de_add (de_name (i := 1) (k := .sh)) de_int) (de_mul de_int (de_name (i := 6) (k := .sh)))) (da_cons (de_add (de_name (i := 4) (k := .sh)) de_int) da_nil)))) dl_nil))) (de_call (G__law_mix.mono (by decide)) hr mg__law_mix kp__law_mix bd__law_mix passF (da_cons (de_name (i := 0) (k := .sh)) (da_cons (de_add (de_add (de_name (i := 1) (k := .sh)) de_int) (de_mul de_int (de_name (i := 6) (k := .sh)))) (da_cons de_int da_nil)))))))) (fun v40 => (db_nil (.keep (.keep (.keep (.keep (.keep (.keep (.drop (.drop (.nil))))))))))))))) (fun s23 => (db_wk (wk_frz 5) (db_ret (de_tup (t := true) (dl_cons (t := true) (de_name (i := 5) (k := .sh)) (dl_cons (t := true) (de_name (i := 4) (k := .sh)) dl_nil)))))))))))

/-! ### _law_givings -/
abbrev s__law_givings : Stmt := topS 28
abbrev n__law_givings : List Str := ["seekers", "found", "wish", "more", "told", "one"]
theorem sc__law_givings : FnScope n__law_givings ["seekers"] (defScope s__law_givings) := ⟨rfl, rfl, rfl, by decide +kernel, rfl, by decide +kernel, by decide +kernel⟩
def b__law_givings (d1 : D) : Res (Fl Unit Empty) :=
  (((((((Res.ok []) >>= mkL) >>= capK .ow) >>= fun x1 => (Res.ok []) >>= fun x2 => Res.ok (x1 :: x2)) >>= mkL) >>= capK .ow) >>= fun v3 => ((((Res.ok d1) >>= fun x4 => (Res.ok (PyData.int 0)) >>= fun x5 => ixD x4 x5) >>= seqL) >>= fun l => Fl.seq (forD (fun q8 (s6 : D) => (Res.ok q8) >>= fun (u9 : D) => ((((Res.ok []) >>= mkL) >>= capK .ow) >>= fun v10 => (((Res.ok s6) >>= seqL) >>= fun l => Fl.seq (forD (fun q13 (s11 : D) => (Res.ok q13) >>= fun (u14 : D) => (((Res.ok s11) >>= fun x24 => (lcR ((((Res.ok u9) >>= sortD .sh) >>= capK .ow) >>= seqL) (fun q16 => (Res.ok q16) >>= fun (u17 : D) => lcF ((Res.ok u17) >>= fun x18 => (Res.ok u14) >>= fun x19 => ninL x18 x19) (((Res.ok u14) >>= fun x22 => (((Res.ok u17) >>= fun x20 => (Res.ok []) >>= fun x21 => Res.ok (x20 :: x21)) >>= mkL) >>= fun x23 => addL .sh .ow x22 x23) >>= capK .ow))) >>= fun x25 => addL .sh .ow x24 x25) >>= fun v26 => ((((Res.ok u14) >>= fun x31 => (((Res.ok PyData.none) >>= fun x29 => (Res.ok []) >>= fun x30 => Res.ok (x29 :: x30)) >>= mkL) >>= fun x32 => addL .sh .ow x31 x32) >>= capK .ow) >>= fun x28 => appD v26 x28 >>= fun v27 => (Res.ok (Fl.nx v27))))) l v10) (fun (s11 : D) => ((Res.ok s11) >>= fun v33 => (Res.ok (Fl.nx v33))))))) l v3) (fun (s6 : D) => ((Res.ok s6) >>= fun v34 => Res.ok (Fl.rt v34)))))
def m__law_givings (ds : List D) : Res D := fnR .sh (rd1 b__law_givings ds)
theorem ok__law_givings {f : Addr} {fd : FuncData} (Fn : Fun K "_law_givings" "_law_givings" s__law_givings f fd)
    (z_sorted : mg "sorted" = none) :
    FG P w K mg base 1 f fd ["seekers"] (spD K mg [.sh] .sh m__law_givings) := by
  have nd := sc__law_givings.nd
  refine fn1 (b := b__law_givings) Fn sc__law_givings rfl (by decide) rfl fun cdv A outer s H F E d1 hr => ?_
  unfold b__law_givings
  exact (db_set (i := 1) nd (de_sh (de_list (t := true) (dl_cons (t := true) (de_sh (de_list (t := true) dl_nil)) dl_nil))) (fun v3 => (db_for (b := true) (le := fun (s6 : D) => [none, some (.sh, s6), none, none, none, none]) v3 passOwnF rfl (di_list (de_ix (de_name (i := 0) (k := .sh)) de_int)) (.drop (.keep (.keep (.keep (.keep (.keep (.nil))))))) (fun s6 => (dg_name (b := true) (i := 2) nd)) nx_ok (fun s6 u9 => (db_set (i := 3) nd (de_sh (de_list (t := true) dl_nil)) (fun v10 => (db_for (b := true) (le := fun (s11 : D) => [none, none, some (.sh, u9), some (.sh, s11), none, none]) v10 passOwnF rfl (di_list (de_name (i := 1) (k := .sh))) (.keep (.drop (.keep (.keep (.keep (.keep (.nil))))))) (fun s11 => (dg_name (b := true) (i := 4) nd)) nx_ok (fun s11 u14 => (db_set (i := 3) nd (de_addL (de_name (i := 3) (k := .sh)) (de_lc true (names := [("one", 5)]) rfl nd (di_list (de_sh (de_sorted hr.un z_sorted (de_name (i := 2) (k := .sh))))) (blkOk_by (by kernel_rfl)) (fun s H A cl fp => (dg_name (b := true) (i := 5) nd)) (fun s H A cl fp _ => (dts_one (dt_c (c_nin hr.un65) (de_name (i := 5) (k := .sh)) (de_name (i := 4) (k := .sh))))) (fun s H A cl fp _ => (de_sh (de_addL (de_name (i := 4) (k := .sh)) (de_list (t := true) (dl_cons (t := true) (de_name (i := 5) (k := .sh)) dl_nil))))) nx_ok (by decide) (fun _ => (EnvLe.set rfl)))) (fun v26 => (db_app (t := true) (i := 3) (de_sh (de_addL (de_name (i := 4) (k := .sh)) (de_list (t := true) (dl_cons (t := true) de_non dl_nil)))) (fun v27 => (db_wk (wk_frz 3) (db_nil (.keep (.keep (.keep (.keep (.drop (.keep (.nil)))))))))))))) (fun s11 => (db_set (i := 1) nd (de_name (i := 3) (k := .sh)) (fun v33 => (db_nil (.keep (.keep (.drop (.drop (.keep (.keep (.nil))))))))))))))) (fun s6 => (db_ret (de_name (i := 1) (k := .sh)))))))

/-! ### is_wish -/
abbrev s_is_wish : Stmt := topS 8
abbrev n_is_wish : List Str := ["told", "many", "k", "one"]
theorem sc_is_wish : FnScope n_is_wish ["told", "many"] (defScope s_is_wish) := ⟨rfl, rfl, rfl, by decide +kernel, rfl, by decide +kernel, by decide +kernel⟩
def b_is_wish (d1 : D) (d2 : D) : Res (Fl Unit Empty) :=
  (((lcR ((Res.ok d1) >>= fun x2 => seqL x2 >>= fun l => Res.ok (enumD l)) (fun q5 => ((unT 2 (unC (fun q3 => Res.ok q3) (un1 (fun q4 => Res.ok q4)))) q5) >>= fun (u6 : D × D) => lcF (Res.ok true) (((Res.ok (PyData.int 0)) >>= (fun x7 => (Res.ok u6.2) >>= fun x8 => leI x7 x8 >>= fun t11 => if t11 then (fun x9 => (Res.ok d2) >>= fun x10 => ltI x9 x10) x8 else Res.ok false) >>= bD) >>= toB >>= fun t17 => if t17 then ((Res.ok u6.2) >>= fun x15 => ((Res.ok d1) >>= fun x12 => (Res.ok none) >>= fun x13 => ((Res.ok u6.1) >>= toI) >>= fun x14 => slcL true .sh x12 x13 x14) >>= fun x16 => ninL x15 x16 >>= bD) else Res.ok (PyData.bool false)))) >>= allD) >>= fun v18 => Res.ok (Fl.rt v18))
def m_is_wish (ds : List D) : Res D := fnR .sh (rd2 b_is_wish ds)
theorem ok_is_wish {f : Addr} {fd : FuncData} (Fn : Fun K "is_wish" "is_wish" s_is_wish f fd)
    (z_all : mg "all" = none)
    (z_enumerate : mg "enumerate" = none) :
    FG P w K mg base 1 f fd ["told", "many"] (spD K mg [.sh, .sh] .sh m_is_wish) := by
  have nd := sc_is_wish.nd
  refine fn2 (b := b_is_wish) Fn sc_is_wish rfl (by decide) rfl fun cdv A outer s H F E d1 d2 hr => ?_
  unfold b_is_wish
  exact (db_ret (de_all rfl z_all (de_lc true (names := [("k", 2), ("one", 3)]) rfl nd (di_enum z_enumerate (de_name (i := 0) (k := .sh))) (blkOk_by (by kernel_rfl)) (fun s H A cl fp => (dg_tup rfl (dgs_cons (dg_name (b := true) (i := 2) nd) fun _ => (dgs_one (dg_name (b := true) (i := 3) nd))))) (fun s H A cl fp _ => dts_nil) (fun s H A cl fp _ => (de_and (de_chain de_int (ch_link c_le (de_name (i := 3) (k := .sh)) (ch_last c_lt (de_name (i := 1) (k := .sh))))) (de_one (de_c (c_nin hr.un65) (de_name (i := 3) (k := .sh)) (de_slice (de_name (i := 0) (k := .sh)) do_none (do_some (de_name (i := 2) (k := .sh)))))))) (nx_unT (nx_unC nx_ok (nx_un1 nx_ok))) (by decide) (fun _ => (EnvLe.trans (EnvLe.set rfl) (EnvLe.set rfl))))))

/-! ### check_seekers -/
abbrev s_check_seekers : Stmt := topS 12
abbrev n_check_seekers : List Str := ["seekers", "lists", "things", "k", "told"]
theorem sc_check_seekers : FnScope n_check_seekers ["seekers"] (defScope s_check_seekers) := ⟨rfl, rfl, rfl, by decide +kernel, rfl, by decide +kernel, by decide +kernel⟩
def b_check_seekers (d1 : D) : Res (Fl Unit Empty) :=
  ((Res.ok d1) >>= fun q4 => ((unT 2 (unC (fun q1 => Res.ok q1) (un1 (fun q2 => Res.ok q2)))) q4) >>= fun (u3 : D × D) => ((((Res.ok (PyData.int 1)) >>= (fun x5 => ((Res.ok u3.1) >>= lenD) >>= fun x6 => leI x5 x6 >>= fun t9 => if t9 then (fun x7 => (Res.ok (PyData.int 6)) >>= fun x8 => leI x7 x8) x6 else Res.ok false)) >>= fun t10 => Res.ok (!t10)) >>= fun t11 => if t11 then Fl.seq (Res.stuck : Res (Fl Empty _)) (fun s => nomatch s) else ((((Res.ok (PyData.int 1)) >>= (fun x12 => (Res.ok u3.2) >>= fun x13 => leI x12 x13 >>= fun t16 => if t16 then (fun x14 => (Res.ok (PyData.int 6)) >>= fun x15 => leI x14 x15) x13 else Res.ok false)) >>= fun t17 => Res.ok (!t17)) >>= fun t18 => if t18 then Fl.seq (Res.stuck : Res (Fl Empty _)) (fun s => nomatch s) else (((Res.ok u3.1) >>= fun x20 => seqL x20 >>= fun l => Res.ok (enumD l)) >>= fun l => Fl.seq (forD (fun q24 (s21 : Unit) => ((unT 2 (unC (fun q22 => Res.ok q22) (un1 (fun q23 => Res.ok q23)))) q24) >>= fun (u25 : D × D) => ((((((Res.ok u25.2) >>= fun x28 => ((Res.ok u3.2) >>= fun x26 => (Res.ok []) >>= fun x27 => Res.ok (x26 :: x27)) >>= fun x29 => Res.ok (x28 :: x29)) >>= m_is_wish) >>= toB) >>= fun t30 => Res.ok (!t30)) >>= fun t31 => if t31 then Fl.seq (Res.stuck : Res (Fl Empty _)) (fun s => nomatch s) else (Res.ok (Fl.nx ())))) l ()) (fun (s21 : Unit) => (Res.ok (Fl.nx ())))))))
def m_check_seekers (ds : List D) : Res D := fnR .sh (rd1 b_check_seekers ds)
theorem ok_check_seekers {f : Addr} {fd : FuncData} (Fn : Fun K "check_seekers" "check_seekers" s_check_seekers f fd)
    {f_is_wish : Addr} {fd_is_wish : FuncData} (G_is_wish : FG P w K mg base 1 f_is_wish fd_is_wish ["told", "many"] (spD K mg [.sh, .sh] .sh m_is_wish)) (mg_is_wish : mg "is_wish" = some (.ref f_is_wish)) (kp_is_wish : PySem.W.keepIn K (.ref f_is_wish) = true) (bd_is_wish : Binds K fd_is_wish ["told", "many"] [])
    (z_len : mg "len" = none)
    (z_enumerate : mg "enumerate" = none)
    {t_MOST_SEEKERS : Tok} (g_MOST_SEEKERS : mg "MOST_SEEKERS" = some (.int 6 t_MOST_SEEKERS))
    {t_MOST_THINGS : Tok} (g_MOST_THINGS : mg "MOST_THINGS" = some (.int 6 t_MOST_THINGS)) :
    FG P w K mg base 2 f fd ["seekers"] (spD K mg [.sh] .sh m_check_seekers) := by
  have nd := sc_check_seekers.nd
  refine fn1 (b := b_check_seekers) Fn sc_check_seekers rfl (by decide) rfl fun cdv A outer s H F E d1 hr => ?_
  unfold b_check_seekers
  exact (db_unp (b := true) (de_name (i := 0) (k := .sh)) (dg_tup rfl (dgs_cons (dg_name (b := true) (i := 1) nd) fun _ => (dgs_one (dg_name (b := true) (i := 2) nd)))) (nx_unT (nx_unC nx_ok (nx_un1 nx_ok))) (fun u3 => (db_ifr (poE := fun s => nomatch s) (dt_not (dt_chain de_int (ch_link c_le (de_len z_len (de_name (i := 1) (k := .sh))) (ch_last c_le (de_globI g_MOST_SEEKERS))))) db_stuck (db_ifr (poE := fun s => nomatch s) (dt_not (dt_chain de_int (ch_link c_le (de_name (i := 2) (k := .sh)) (ch_last c_le (de_globI g_MOST_THINGS))))) db_stuck (db_for (b := true) (le := fun (s21 : Unit) => [none, none, some (.sh, u3.2), none, none]) () passOwnF rfl (di_enum z_enumerate (de_name (i := 1) (k := .sh))) (.drop (.drop (.keep (.keep (.keep (.nil)))))) (fun s21 => (dg_tup rfl (dgs_cons (dg_name (b := true) (i := 3) nd) fun _ => (dgs_one (dg_name (b := true) (i := 4) nd))))) (nx_unT (nx_unC nx_ok (nx_un1 nx_ok))) (fun s21 u25 => (db_ifr (poE := fun s => nomatch s) (dt_not (dt_val (de_call (G_is_wish.mono (by decide)) hr mg_is_wish kp_is_wish bd_is_wish passF (da_cons (de_name (i := 4) (k := .sh)) (da_cons (de_name (i := 2) (k := .sh)) da_nil))))) db_stuck (db_nil (.keep (.keep (.keep (.drop (.drop (.nil))))))))) (fun s21 => (db_nil (.keep (.keep (.drop (.keep (.keep (.nil)))))))))))))

/-! ### check_order -/
abbrev s_check_order : Stmt := topS 16
abbrev n_check_order : List Str := ["seekers", "order"]
theorem sc_check_order : FnScope n_check_order ["seekers", "order"] (defScope s_check_order) := ⟨rfl, rfl, rfl, by decide +kernel, rfl, by decide +kernel, by decide +kernel⟩
def b_check_order (d1 : D) (d2 : D) : Res (Fl Unit Empty) :=
  ((((Res.ok d1) >>= fun x1 => (Res.ok []) >>= fun x2 => Res.ok (x1 :: x2)) >>= m_check_seekers) >>= fun _ => ((((Res.ok d2) >>= sortD .sh) >>= fun x6 => ((((Res.ok d1) >>= fun x3 => (Res.ok (PyData.int 0)) >>= fun x4 => ixD x3 x4) >>= lenD) >>= fun x5 => rngL (.int 0) x5 >>= fun l => Res.ok (.list l)) >>= fun x7 => neD x6 x7) >>= fun t8 => if t8 then Fl.seq (Res.stuck : Res (Fl Empty _)) (fun s => nomatch s) else (Res.ok (Fl.nx ()))))
def m_check_order (ds : List D) : Res D := fnR .sh (rd2 b_check_order ds)
theorem ok_check_order {f : Addr} {fd : FuncData} (Fn : Fun K "check_order" "check_order" s_check_order f fd)
    {f_check_seekers : Addr} {fd_check_seekers : FuncData} (G_check_seekers : FG P w K mg base 2 f_check_seekers fd_check_seekers ["seekers"] (spD K mg [.sh] .sh m_check_seekers)) (mg_check_seekers : mg "check_seekers" = some (.ref f_check_seekers)) (kp_check_seekers : PySem.W.keepIn K (.ref f_check_seekers) = true) (bd_check_seekers : Binds K fd_check_seekers ["seekers"] [])
    (z_sorted : mg "sorted" = none)
    (z_list : mg "list" = none)
    (z_range : mg "range" = none)
    (z_len : mg "len" = none) :
    FG P w K mg base 3 f fd ["seekers", "order"] (spD K mg [.sh, .sh] .sh m_check_order) := by
  have nd := sc_check_order.nd
  refine fn2 (b := b_check_order) Fn sc_check_order rfl (by decide) rfl fun cdv A outer s H F E d1 d2 hr => ?_
  unfold b_check_order
  exact (db_expr (de_call (G_check_seekers.mono (by decide)) hr mg_check_seekers kp_check_seekers bd_check_seekers passF (da_cons (de_name (i := 0) (k := .sh)) da_nil)) (db_ifr (poE := fun s => nomatch s) (dt_c (c_ne hr.un64) (de_sorted hr.un z_sorted (de_name (i := 1) (k := .sh))) (de_lrng1 rfl z_list z_range (de_len z_len (de_ix (de_name (i := 0) (k := .sh)) de_int)))) db_stuck (db_nil (.drop (.drop (.nil))))))

/-! ### giving_of -/
abbrev s_giving_of : Stmt := topS 13
abbrev n_giving_of : List Str := ["seekers", "told", "lists", "things", "one", "wish"]
theorem sc_giving_of : FnScope n_giving_of ["seekers", "told"] (defScope s_giving_of) := ⟨rfl, rfl, rfl, by decide +kernel, rfl, by decide +kernel, by decide +kernel⟩
def b_giving_of (d1 : D) (d2 : D) : Res (Fl Unit Empty) :=
  ((Res.ok d1) >>= fun q4 => ((unT 2 (unC (fun q1 => Res.ok q1) (un1 (fun q2 => Res.ok q2)))) q4) >>= fun (u3 : D × D) => (((((Res.ok d2) >>= lenD) >>= fun x5 => ((Res.ok u3.1) >>= lenD) >>= fun x6 => neD x5 x6) >>= fun t17 => if t17 then Res.ok true else ((((((lcR ((Res.ok d2) >>= seqL) (fun q8 => (Res.ok q8) >>= fun (u9 : D) => lcF ((Res.ok u9) >>= fun x10 => (Res.ok PyData.none) >>= fun x11 => isntD x10 x11) (Res.ok u9))) >>= capK .ow) >>= fun x14 => ((Res.ok u3.2) >>= fun x12 => (Res.ok []) >>= fun x13 => Res.ok (x12 :: x13)) >>= fun x15 => Res.ok (x14 :: x15)) >>= m_is_wish) >>= toB) >>= fun t16 => Res.ok (!t16))) >>= fun t18 => if t18 then Fl.seq (((Res.ok (PyData.bool false)) >>= fun v19 => Res.ok (Fl.rt v19)) : Res (Fl Empty _)) (fun s => nomatch s) else (((lcR ((Res.ok d2) >>= fun x20 => (Res.ok u3.1) >>= fun x21 => seqL x20 >>= fun l => seqL x21 >>= fun l2 => Res.ok (zipD l l2)) (fun q24 => ((unT 2 (unC (fun q22 => Res.ok q22) (un1 (fun q23 => Res.ok q23)))) q24) >>= fun (u25 : D × D) => lcF (Res.ok true) (((Res.ok u25.1) >>= fun x26 => (Res.ok PyData.none) >>= fun x27 => isD x26 x27 >>= bD) >>= toB >>= fun t30 => if t30 then Res.ok (PyData.bool true) else ((Res.ok u25.1) >>= fun x28 => (Res.ok u25.2) >>= fun x29 => inL x28 x29 >>= bD)))) >>= allD) >>= fun v31 => Res.ok (Fl.rt v31))))
def m_giving_of (ds : List D) : Res D := fnR .sh (rd2 b_giving_of ds)
theorem ok_giving_of {f : Addr} {fd : FuncData} (Fn : Fun K "giving_of" "giving_of" s_giving_of f fd)
    {f_is_wish : Addr} {fd_is_wish : FuncData} (G_is_wish : FG P w K mg base 1 f_is_wish fd_is_wish ["told", "many"] (spD K mg [.sh, .sh] .sh m_is_wish)) (mg_is_wish : mg "is_wish" = some (.ref f_is_wish)) (kp_is_wish : PySem.W.keepIn K (.ref f_is_wish) = true) (bd_is_wish : Binds K fd_is_wish ["told", "many"] [])
    (z_len : mg "len" = none)
    (z_all : mg "all" = none)
    (z_zip : mg "zip" = none) :
    FG P w K mg base 2 f fd ["seekers", "told"] (spD K mg [.sh, .sh] .sh m_giving_of) := by
  have nd := sc_giving_of.nd
  refine fn2 (b := b_giving_of) Fn sc_giving_of rfl (by decide) rfl fun cdv A outer s H F E d1 d2 hr => ?_
  unfold b_giving_of
  exact (db_unp (b := true) (de_name (i := 0) (k := .sh)) (dg_tup rfl (dgs_cons (dg_name (b := true) (i := 2) nd) fun _ => (dgs_one (dg_name (b := true) (i := 3) nd)))) (nx_unT (nx_unC nx_ok (nx_un1 nx_ok))) (fun u3 => (db_ifr (poE := fun s => nomatch s) (dt_w (dw_or (dt_c (c_ne hr.un64) (de_len z_len (de_name (i := 1) (k := .sh))) (de_len z_len (de_name (i := 2) (k := .sh)))) (dw_or1 (dt_not (dt_val (de_call (G_is_wish.mono (by decide)) hr mg_is_wish kp_is_wish bd_is_wish passF (da_cons (de_sh (de_lc true (names := [("one", 4)]) rfl nd (di_list (de_name (i := 1) (k := .sh))) (blkOk_by (by kernel_rfl)) (fun s H A cl fp => (dg_name (b := true) (i := 4) nd)) (fun s H A cl fp _ => (dts_one (dt_c c_isnt (de_name (i := 4) (k := .sh)) de_non))) (fun s H A cl fp _ => (de_name (i := 4) (k := .sh))) nx_ok (by decide) (fun _ => (EnvLe.set rfl)))) (da_cons (de_name (i := 3) (k := .sh)) da_nil)))))))) (db_ret de_bl) (db_ret (de_all rfl z_all (de_lc true (names := [("one", 4), ("wish", 5)]) rfl nd (di_zip z_zip (de_name (i := 1) (k := .sh)) (de_name (i := 2) (k := .sh))) (blkOk_by (by kernel_rfl)) (fun s H A cl fp => (dg_tup rfl (dgs_cons (dg_name (b := true) (i := 4) nd) fun _ => (dgs_one (dg_name (b := true) (i := 5) nd))))) (fun s H A cl fp _ => dts_nil) (fun s H A cl fp _ => (de_or (de_c c_is (de_name (i := 4) (k := .sh)) de_non) (de_one (de_c (c_in hr.un65) (de_name (i := 4) (k := .sh)) (de_name (i := 5) (k := .sh)))))) (nx_unT (nx_unC nx_ok (nx_un1 nx_ok))) (by decide) (fun _ => (EnvLe.trans (EnvLe.set rfl) (EnvLe.set rfl)))))))))

/-! ### best_left -/
abbrev s_best_left : Stmt := topS 17
abbrev n_best_left : List Str := ["wish", "told", "left", "one"]
theorem sc_best_left : FnScope n_best_left ["wish", "told"] (defScope s_best_left) := ⟨rfl, rfl, rfl, by decide +kernel, rfl, by decide +kernel, by decide +kernel⟩
def b_best_left (d1 : D) (d2 : D) : Res (Fl Unit Empty) :=
  ((lcR ((Res.ok d1) >>= seqL) (fun q2 => (Res.ok q2) >>= fun (u3 : D) => lcF ((Res.ok u3) >>= fun x4 => (Res.ok d2) >>= fun x5 => ninL x4 x5) (Res.ok u3))) >>= fun v6 => (((((Res.ok v6) >>= lenD) >>= fun x7 => (Res.ok (PyData.int 0)) >>= fun x8 => gtI x7 x8) >>= fun t11 => if t11 then ((Res.ok v6) >>= fun x9 => (Res.ok (PyData.int 0)) >>= fun x10 => ixD x9 x10) else (Res.ok PyData.none)) >>= fun v12 => Res.ok (Fl.rt v12)))
def m_best_left (ds : List D) : Res D := fnR .sh (rd2 b_best_left ds)
theorem ok_best_left {f : Addr} {fd : FuncData} (Fn : Fun K "best_left" "best_left" s_best_left f fd)
    (z_len : mg "len" = none) :
    FG P w K mg base 1 f fd ["wish", "told"] (spD K mg [.sh, .bo] .sh m_best_left) := by
  have nd := sc_best_left.nd
  refine fn2 (b := b_best_left) Fn sc_best_left rfl (by decide) rfl fun cdv A outer s H F E d1 d2 hr => ?_
  unfold b_best_left
  exact (db_setLc (i := 2) (names := [("one", 3)]) rfl nd (di_list (de_name (i := 0) (k := .sh))) (blkOk_by (by kernel_rfl)) (fun s H A cl fp => (dg_name (b := true) (i := 3) nd)) (fun s H A cl fp _ => (dts_one (dt_c (c_nin hr.un65) (de_name (i := 3) (k := .sh)) (de_name (i := 1) (k := .bo))))) (fun s H A cl fp _ => (de_name (i := 3) (k := .sh))) nx_ok (by decide) (fun _ => (EnvLe.set rfl)) (fun v6 => (db_wk (wk_frz 2) (db_ret (de_if (dt_c c_gt (de_len z_len (de_name (i := 2) (k := .sh))) de_int) (de_ix (de_name (i := 2) (k := .sh)) de_int) de_non)))))

/-! ### with_claims -/
abbrev s_with_claims : Stmt := topS 21
abbrev n_with_claims : List Str := ["seekers", "order", "claims", "told", "left", "row", "one", "thing", "owners", "other", "ring", "things", "taken"]
theorem sc_with_claims : FnScope n_with_claims ["seekers", "order", "claims"] (defScope s_with_claims) := ⟨rfl, rfl, rfl, by decide +kernel, rfl, by decide +kernel, by decide +kernel⟩
def b_with_claims (d1 : D) (d2 : D) (d3 : D) : Res (Fl Unit Empty) :=
  ((((Res.ok d1) >>= fun x3 => ((Res.ok d2) >>= fun x1 => (Res.ok []) >>= fun x2 => Res.ok (x1 :: x2)) >>= fun x4 => Res.ok (x3 :: x4)) >>= m_check_order) >>= fun _ => ((((((Res.ok d1) >>= fun x7 => ((Res.ok d3) >>= fun x5 => (Res.ok []) >>= fun x6 => Res.ok (x5 :: x6)) >>= fun x8 => Res.ok (x7 :: x8)) >>= m_giving_of) >>= toB) >>= fun t9 => Res.ok (!t9)) >>= fun t10 => if t10 then Fl.seq (Res.stuck : Res (Fl Empty _)) (fun s => nomatch s) else (((((Res.ok PyData.none) >>= fun x11 => (Res.ok []) >>= fun x12 => Res.ok (x11 :: x12)) >>= mkL) >>= fun x13 => ((Res.ok d2) >>= lenD) >>= fun x14 => repL x13 x14) >>= fun v15 => ((((Res.ok d2) >>= listD true .sh) >>= capK .ow) >>= fun v16 => ((((Res.ok []) >>= mkL) >>= capK .ow) >>= fun v17 => (Fl.seq (whileD (fun (s18 : D × D × D) => (((Res.ok s18.2.1) >>= lenD) >>= fun x19 => (Res.ok (PyData.int 0)) >>= fun x20 => gtI x19 x20)) (fun (s18 : D × D × D) => ((((Res.ok s18.2.2) >>= lenD) >>= fun x21 => (Res.ok (PyData.int 0)) >>= fun x22 => eqD x21 x22) >>= fun t23 => Fl.seq (if t23 then ((((((Res.ok s18.2.1) >>= fun x27 => (Res.ok (PyData.int 0)) >>= fun x28 => ixD x27 x28) >>= fun x25 => (Res.ok []) >>= fun x26 => Res.ok (x25 :: x26)) >>= mkL) >>= capK .ow) >>= fun v29 => (Res.ok (Fl.nx v29))) else (Res.ok (Fl.nx s18.2.2))) (fun (s24 : D) => (((Res.ok s24) >>= fun x31 => ((Res.ok (PyData.int 1)) >>= fun x30 => negI x30) >>= fun x32 => ixD x31 x32) >>= fun v33 => ((((((Res.ok d1) >>= fun x34 => (Res.ok (PyData.int 0)) >>= fun x35 => ixD x34 x35) >>= fun x36 => (Res.ok v33) >>= fun x37 => ixD x36 x37) >>= fun x40 => ((Res.ok s18.1) >>= fun x38 => (Res.ok []) >>= fun x39 => Res.ok (x38 :: x39)) >>= fun x41 => Res.ok (x40 :: x41)) >>= m_best_left) >>= fun v42 => ((lcR ((Res.ok s18.2.1) >>= seqL) (fun q44 => (Res.ok q44) >>= fun (u45 : D) => lcF ((((Res.ok d3) >>= fun x46 => (Res.ok u45) >>= fun x47 => ixD x46 x47) >>= fun x48 => (Res.ok PyData.none) >>= fun x49 => isntD x48 x49) >>= fun t57 => if t57 then ((((Res.ok d3) >>= fun x50 => (Res.ok u45) >>= fun x51 => ixD x50 x51) >>= fun x52 => (Res.ok v42) >>= fun x53 => eqD x52 x53) >>= fun t56 => if t56 then ((Res.ok u45) >>= fun x54 => (Res.ok v33) >>= fun x55 => neD x54 x55) else Res.ok false) else Res.ok false) (Res.ok u45))) >>= fun v58 => ((((Res.ok v58) >>= lenD) >>= fun x59 => (Res.ok (PyData.int 0)) >>= fun x60 => eqD x59 x60) >>= fun t61 => Fl.seq (if t61 then ((Res.ok v42) >>= fun x63 => (Res.ok v33) >>= fun x64 => setD s18.1 x64 x63 >>= fun v65 => ((lcR ((Res.ok s18.2.1) >>= seqL) (fun q67 => (Res.ok q67) >>= fun (u68 : D) => lcF ((Res.ok u68) >>= fun x69 => (Res.ok v33) >>= fun x70 => neD x69 x70) (Res.ok u68))) >>= fun v71 => ((((Res.ok s24) >>= fun x73 => (Res.ok none) >>= fun x74 => (((Res.ok (PyData.int 1)) >>= fun x72 => negI x72) >>= toI) >>= fun x75 => slcL true .sh x73 x74 x75) >>= capK .ow) >>= fun v76 => (Res.ok (Fl.nx (v65, v71, v76)))))) else ((((Res.ok v58) >>= fun x77 => (Res.ok (PyData.int 0)) >>= fun x78 => ixD x77 x78) >>= fun x79 => (Res.ok s24) >>= fun x80 => inL x79 x80) >>= fun t81 => Fl.seq (if t81 then ((((Res.ok s24) >>= fun x88 => (((Res.ok s24) >>= fun x85 => asL x85 >>= fun x86 => ((Res.ok v58) >>= fun x83 => (Res.ok (PyData.int 0)) >>= fun x84 => ixD x83 x84) >>= fun x87 => indexL x86 x87) >>= toI) >>= fun x89 => (Res.ok none) >>= fun x90 => slcL true .sh x88 x89 x90) >>= capK .ow) >>= fun v91 => ((lcR ((Res.ok v91) >>= seqL) (fun q93 => (Res.ok q93) >>= fun (u94 : D) => lcF (Res.ok true) (((((Res.ok d1) >>= fun x95 => (Res.ok (PyData.int 0)) >>= fun x96 => ixD x95 x96) >>= fun x97 => (Res.ok u94) >>= fun x98 => ixD x97 x98) >>= fun x101 => ((Res.ok s18.1) >>= fun x99 => (Res.ok []) >>= fun x100 => Res.ok (x99 :: x100)) >>= fun x102 => Res.ok (x101 :: x102)) >>= m_best_left))) >>= fun v103 => (((Res.ok v91) >>= fun x104 => (Res.ok v103) >>= fun x105 => seqL x104 >>= fun l => seqL x105 >>= fun l2 => Res.ok (zipD l l2)) >>= fun l => Fl.seq (forD (fun q109 (s106 : D) => ((unT 2 (unC (fun q107 => Res.ok q107) (un1 (fun q108 => Res.ok q108)))) q109) >>= fun (u110 : D × D) => ((Res.ok u110.2) >>= fun x111 => (Res.ok u110.1) >>= fun x112 => setD s106 x112 x111 >>= fun v113 => (Res.ok (Fl.nx v113)))) l s18.1) (fun (s106 : D) => ((lcR ((Res.ok s18.2.1) >>= seqL) (fun q115 => (Res.ok q115) >>= fun (u116 : D) => lcF ((Res.ok u116) >>= fun x117 => (Res.ok v91) >>= fun x118 => ninL x117 x118) (Res.ok u116))) >>= fun v119 => ((((Res.ok s24) >>= fun x125 => (Res.ok none) >>= fun x126 => (((Res.ok s24) >>= fun x122 => asL x122 >>= fun x123 => ((Res.ok v58) >>= fun x120 => (Res.ok (PyData.int 0)) >>= fun x121 => ixD x120 x121) >>= fun x124 => indexL x123 x124) >>= toI) >>= fun x127 => slcL true .sh x125 x126 x127) >>= capK .ow) >>= fun v128 => (Res.ok (Fl.nx (s106, v119, v128))))))))) else (((((Res.ok s24) >>= starL true .sh >>= fun x133 => (((Res.ok v58) >>= fun x131 => (Res.ok (PyData.int 0)) >>= fun x132 => ixD x131 x132) >>= fun x129 => (Res.ok []) >>= fun x130 => Res.ok (x129 :: x130)) >>= fun x134 => Res.ok (x133 ++ x134)) >>= mkL) >>= capK .ow) >>= fun v135 => (Res.ok (Fl.nx (s18.1, s18.2.1, v135))))) (fun (s82 : D × D × D) => (Res.ok (Fl.nx (s82.1, s82.2.1, s82.2.2)))))) (fun (s62 : D × D × D) => (Res.ok (Fl.nx (s62.1, s62.2.1, s62.2.2))))))))))) fuelN (v15, v16, v17)) (fun (s18 : D × D × D) => (Res.ok (Fl.rt s18.1)))))))))
def m_with_claims (ds : List D) : Res D := fnR .ow (rd3 b_with_claims ds)
theorem ok_with_claims {f : Addr} {fd : FuncData} (Fn : Fun K "with_claims" "with_claims" s_with_claims f fd)
    {f_check_order : Addr} {fd_check_order : FuncData} (G_check_order : FG P w K mg base 3 f_check_order fd_check_order ["seekers", "order"] (spD K mg [.sh, .sh] .sh m_check_order)) (mg_check_order : mg "check_order" = some (.ref f_check_order)) (kp_check_order : PySem.W.keepIn K (.ref f_check_order) = true) (bd_check_order : Binds K fd_check_order ["seekers", "order"] [])
    {f_giving_of : Addr} {fd_giving_of : FuncData} (G_giving_of : FG P w K mg base 2 f_giving_of fd_giving_of ["seekers", "told"] (spD K mg [.sh, .sh] .sh m_giving_of)) (mg_giving_of : mg "giving_of" = some (.ref f_giving_of)) (kp_giving_of : PySem.W.keepIn K (.ref f_giving_of) = true) (bd_giving_of : Binds K fd_giving_of ["seekers", "told"] [])
    {f_best_left : Addr} {fd_best_left : FuncData} (G_best_left : FG P w K mg base 1 f_best_left fd_best_left ["wish", "told"] (spD K mg [.sh, .bo] .sh m_best_left)) (mg_best_left : mg "best_left" = some (.ref f_best_left)) (kp_best_left : PySem.W.keepIn K (.ref f_best_left) = true) (bd_best_left : Binds K fd_best_left ["wish", "told"] [])
    (z_len : mg "len" = none)
    (z_list : mg "list" = none)
    (z_zip : mg "zip" = none) :
    FG P w K mg base 4 f fd ["seekers", "order", "claims"] (spD K mg [.sh, .sh, .sh] .ow m_with_claims) := by
  have nd := sc_with_claims.nd
  refine fn3 (b := b_with_claims) Fn sc_with_claims rfl (by decide) rfl fun cdv A outer s H F E d1 d2 d3 hr => ?_
  unfold b_with_claims
  exact (db_expr (de_call (G_check_order.mono (by decide)) hr mg_check_order kp_check_order bd_check_order passF (da_cons (de_name (i := 0) (k := .sh)) (da_cons (de_name (i := 1) (k := .sh)) da_nil))) (db_ifr (poE := fun s => nomatch s) (dt_not (dt_val (de_call (G_giving_of.mono (by decide)) hr mg_giving_of kp_giving_of bd_giving_of passF (da_cons (de_name (i := 0) (k := .sh)) (da_cons (de_name (i := 2) (k := .sh)) da_nil))))) db_stuck (db_set (i := 3) nd (de_rep (de_list (t := true) (dl_cons (t := true) de_non dl_nil)) (de_len z_len (de_name (i := 1) (k := .sh)))) (fun v15 => (db_set (i := 4) nd (de_sh (de_listof true z_list (de_name (i := 1) (k := .sh)))) (fun v16 => (db_set (i := 5) nd (de_sh (de_list (t := true) dl_nil)) (fun v17 => (db_while (le := fun (s18 : D × D × D) => [some (.sh, d1), none, some (.sh, d3), some (.ow, s18.1), some (.sh, s18.2.1), some (.sh, s18.2.2), none, none, none, none, none, none, none]) fuelN (v15, v16, v17) passOwnF (.keep (.drop (.keep (.keep (.keep (.keep (.keep (.keep (.keep (.keep (.keep (.keep (.keep (.nil)))))))))))))) (fun s18 => (dt_c c_gt (de_len z_len (de_name (i := 4) (k := .sh))) de_int)) (fun s18 => (db_if (po1 := fun (s24 : D) => [some (.sh, d1), none, some (.sh, d3), some (.ow, s18.1), some (.sh, s18.2.1), some (.sh, s24), none, none, none, none, none, none, none]) (dt_c (c_eq hr.un64) (de_len z_len (de_name (i := 5) (k := .sh))) de_int) (db_set (i := 5) nd (de_sh (de_list (t := true) (dl_cons (t := true) (de_ix (de_name (i := 4) (k := .sh)) de_int) dl_nil))) (fun v29 => (db_nil (.keep (.keep (.keep (.keep (.keep (.keep (.keep (.keep (.keep (.keep (.keep (.keep (.keep (.nil))))))))))))))))) (db_nil (.keep (.keep (.keep (.keep (.keep (.keep (.keep (.keep (.keep (.keep (.keep (.keep (.keep (.nil))))))))))))))) (fun s24 => (db_set (i := 6) nd (de_ix (de_name (i := 5) (k := .sh)) (de_neg de_int)) (fun v33 => (db_set (i := 7) nd (de_call (G_best_left.mono (by decide)) hr mg_best_left kp_best_left bd_best_left passF (da_cons (de_ix (de_ix (de_name (i := 0) (k := .sh)) de_int) (de_name (i := 6) (k := .sh))) (da_cons (de_name (i := 3) (k := .ow)) da_nil))) (fun v42 => (db_setLc (i := 8) (names := [("other", 9)]) rfl nd (di_list (de_name (i := 4) (k := .sh))) (blkOk_by (by kernel_rfl)) (fun s H A cl fp => (dg_name (b := true) (i := 9) nd)) (fun s H A cl fp _ => (dts_one (dt_w (dw_and (dt_c c_isnt (de_ix (de_name (i := 2) (k := .sh)) (de_name (i := 9) (k := .sh))) de_non) (dw_and (dt_c (c_eq hr.un64) (de_ix (de_name (i := 2) (k := .sh)) (de_name (i := 9) (k := .sh))) (de_name (i := 7) (k := .sh))) (dw_and1 (dt_c (c_ne hr.un64) (de_name (i := 9) (k := .sh)) (de_name (i := 6) (k := .sh))))))))) (fun s H A cl fp _ => (de_name (i := 9) (k := .sh))) nx_ok (by decide) (fun _ => (EnvLe.set rfl)) (fun v58 => (db_wk (wk_frz 8) (db_if (po1 := fun (s62 : D × D × D) => [some (.sh, d1), none, some (.sh, d3), some (.ow, s62.1), some (.sh, s62.2.1), some (.sh, s62.2.2), none, none, none, none, none, none, none]) (dt_c (c_eq hr.un64) (de_len z_len (de_name (i := 8) (k := .sh))) de_int) (db_seti (t := true) (i := 3) (de_name (i := 7) (k := .sh)) (de_name (i := 6) (k := .sh)) (fun v65 => (db_setLc (i := 4) (names := [("other", 9)]) rfl nd (di_list (de_name (i := 4) (k := .sh))) (blkOk_by (by kernel_rfl)) (fun s H A cl fp => (dg_name (b := true) (i := 9) nd)) (fun s H A cl fp _ => (dts_one (dt_c (c_ne hr.un64) (de_name (i := 9) (k := .sh)) (de_name (i := 6) (k := .sh))))) (fun s H A cl fp _ => (de_name (i := 9) (k := .sh))) nx_ok (by decide) (fun _ => (EnvLe.set rfl)) (fun v71 => (db_wk (wk_frz 4) (db_set (i := 5) nd (de_sh (de_slice (de_name (i := 5) (k := .sh)) do_none (do_some (de_neg de_int)))) (fun v76 => (db_nil (.keep (.keep (.keep (.keep (.keep (.keep (.drop (.drop (.drop (.keep (.keep (.keep (.keep (.nil)))))))))))))))))))))) (db_if (po1 := fun (s82 : D × D × D) => [some (.sh, d1), none, some (.sh, d3), some (.ow, s82.1), some (.sh, s82.2.1), some (.sh, s82.2.2), none, none, none, none, none, none, none]) (dt_c (c_in hr.un65) (de_ix (de_name (i := 8) (k := .sh)) de_int) (de_name (i := 5) (k := .sh))) (db_set (i := 10) nd (de_sh (de_slice (de_name (i := 5) (k := .sh)) (do_some (de_index hr.un65 (de_name (i := 5) (k := .sh)) (de_ix (de_name (i := 8) (k := .sh)) de_int))) do_none)) (fun v91 => (db_setLc (i := 11) (names := [("other", 9)]) rfl nd (di_list (de_name (i := 10) (k := .sh))) (blkOk_by (by kernel_rfl)) (fun s H A cl fp => (dg_name (b := true) (i := 9) nd)) (fun s H A cl fp _ => dts_nil) (fun s H A cl fp _ => (de_call (G_best_left.mono (by decide)) hr mg_best_left kp_best_left bd_best_left passL (da_cons (de_ix (de_ix (de_name (i := 0) (k := .sh)) de_int) (de_name (i := 9) (k := .sh))) (da_cons (de_name (i := 3) (k := .vs)) da_nil)))) nx_ok (by decide) (fun _ => (EnvLe.set rfl)) (fun v103 => (db_wk (wk_frz 11) (db_for (b := true) (le := fun (s106 : D) => [some (.sh, d1), none, some (.sh, d3), some (.ow, s106), some (.sh, s18.2.1), some (.sh, s24), none, none, some (.sh, v58), none, some (.sh, v91), none, none]) s18.1 passOwnF rfl (di_zip z_zip (de_name (i := 10) (k := .sh)) (de_name (i := 11) (k := .sh))) (.keep (.keep (.keep (.keep (.keep (.keep (.drop (.drop (.keep (.keep (.keep (.drop (.keep (.nil)))))))))))))) (fun s106 => (dg_tup rfl (dgs_cons (dg_name (b := true) (i := 9) nd) fun _ => (dgs_one (dg_name (b := true) (i := 12) nd))))) (nx_unT (nx_unC nx_ok (nx_un1 nx_ok))) (fun s106 u110 => (db_seti (t := true) (i := 3) (de_name (i := 12) (k := .sh)) (de_name (i := 9) (k := .sh)) (fun v113 => (db_nil (.keep (.keep (.keep (.keep (.keep (.keep (.keep (.keep (.keep (.drop (.keep (.keep (.drop (.nil)))))))))))))))))) (fun s106 => (db_setLc (i := 4) (names := [("other", 9)]) rfl nd (di_list (de_name (i := 4) (k := .sh))) (blkOk_by (by kernel_rfl)) (fun s H A cl fp => (dg_name (b := true) (i := 9) nd)) (fun s H A cl fp _ => (dts_one (dt_c (c_nin hr.un65) (de_name (i := 9) (k := .sh)) (de_name (i := 10) (k := .sh))))) (fun s H A cl fp _ => (de_name (i := 9) (k := .sh))) nx_ok (by decide) (fun _ => (EnvLe.set rfl)) (fun v119 => (db_wk (wk_frz 4) (db_set (i := 5) nd (de_sh (de_slice (de_name (i := 5) (k := .sh)) do_none (do_some (de_index hr.un65 (de_name (i := 5) (k := .sh)) (de_ix (de_name (i := 8) (k := .sh)) de_int))))) (fun v128 => (db_nil (.keep (.keep (.keep (.keep (.keep (.keep (.keep (.keep (.drop (.keep (.drop (.keep (.keep (.nil))))))))))))))))))))))))))) (db_set (i := 5) nd (de_sh (de_list (t := true) (dl_star (de_name (i := 5) (k := .sh)) (dl_cons (t := true) (de_ix (de_name (i := 8) (k := .sh)) de_int) dl_nil)))) (fun v135 => (db_nil (.keep (.keep (.keep (.keep (.keep (.keep (.drop (.drop (.drop (.keep (.keep (.keep (.keep (.nil))))))))))))))))) (fun s82 => (db_nil (.keep (.keep (.keep (.keep (.keep (.keep (.keep (.keep (.keep (.keep (.keep (.keep (.keep (.nil))))))))))))))))) (fun s62 => (db_nil (.keep (.keep (.keep (.keep (.keep (.keep (.keep (.keep (.keep (.keep (.keep (.keep (.keep (.nil))))))))))))))))))))))))))) (fun s18 => (db_retO (i := 3))))))))))))

/-! ### check_givings -/
abbrev s_check_givings : Stmt := topS 14
abbrev n_check_givings : List Str := ["seekers", "givings", "k", "told"]
theorem sc_check_givings : FnScope n_check_givings ["seekers", "givings"] (defScope s_check_givings) := ⟨rfl, rfl, rfl, by decide +kernel, rfl, by decide +kernel, by decide +kernel⟩
def b_check_givings (d1 : D) (d2 : D) : Res (Fl Unit Empty) :=
  ((((Res.ok d1) >>= fun x1 => (Res.ok []) >>= fun x2 => Res.ok (x1 :: x2)) >>= m_check_seekers) >>= fun _ => (((Res.ok d2) >>= fun x4 => seqL x4 >>= fun l => Res.ok (enumD l)) >>= fun l => Fl.seq (forD (fun q8 (s5 : Unit) => ((unT 2 (unC (fun q6 => Res.ok q6) (un1 (fun q7 => Res.ok q7)))) q8) >>= fun (u9 : D × D) => ((((((Res.ok d1) >>= fun x12 => ((Res.ok u9.2) >>= fun x10 => (Res.ok []) >>= fun x11 => Res.ok (x10 :: x11)) >>= fun x13 => Res.ok (x12 :: x13)) >>= m_giving_of) >>= toB) >>= fun t14 => Res.ok (!t14)) >>= fun t15 => if t15 then Fl.seq (Res.stuck : Res (Fl Empty _)) (fun s => nomatch s) else (Res.ok (Fl.nx ())))) l ()) (fun (s5 : Unit) => (Res.ok (Fl.nx ())))))
def m_check_givings (ds : List D) : Res D := fnR .sh (rd2 b_check_givings ds)
theorem ok_check_givings {f : Addr} {fd : FuncData} (Fn : Fun K "check_givings" "check_givings" s_check_givings f fd)
    {f_check_seekers : Addr} {fd_check_seekers : FuncData} (G_check_seekers : FG P w K mg base 2 f_check_seekers fd_check_seekers ["seekers"] (spD K mg [.sh] .sh m_check_seekers)) (mg_check_seekers : mg "check_seekers" = some (.ref f_check_seekers)) (kp_check_seekers : PySem.W.keepIn K (.ref f_check_seekers) = true) (bd_check_seekers : Binds K fd_check_seekers ["seekers"] [])
    {f_giving_of : Addr} {fd_giving_of : FuncData} (G_giving_of : FG P w K mg base 2 f_giving_of fd_giving_of ["seekers", "told"] (spD K mg [.sh, .sh] .sh m_giving_of)) (mg_giving_of : mg "giving_of" = some (.ref f_giving_of)) (kp_giving_of : PySem.W.keepIn K (.ref f_giving_of) = true) (bd_giving_of : Binds K fd_giving_of ["seekers", "told"] [])
    (z_enumerate : mg "enumerate" = none) :
    FG P w K mg base 3 f fd ["seekers", "givings"] (spD K mg [.sh, .sh] .sh m_check_givings) := by
  have nd := sc_check_givings.nd
  refine fn2 (b := b_check_givings) Fn sc_check_givings rfl (by decide) rfl fun cdv A outer s H F E d1 d2 hr => ?_
  unfold b_check_givings
  exact (db_expr (de_call (G_check_seekers.mono (by decide)) hr mg_check_seekers kp_check_seekers bd_check_seekers passF (da_cons (de_name (i := 0) (k := .sh)) da_nil)) (db_for (b := true) (le := fun (s5 : Unit) => [some (.sh, d1), none, none, none]) () passOwnF rfl (di_enum z_enumerate (de_name (i := 1) (k := .sh))) (.keep (.drop (.keep (.keep (.nil))))) (fun s5 => (dg_tup rfl (dgs_cons (dg_name (b := true) (i := 2) nd) fun _ => (dgs_one (dg_name (b := true) (i := 3) nd))))) (nx_unT (nx_unC nx_ok (nx_un1 nx_ok))) (fun s5 u9 => (db_ifr (poE := fun s => nomatch s) (dt_not (dt_val (de_call (G_giving_of.mono (by decide)) hr mg_giving_of kp_giving_of bd_giving_of passF (da_cons (de_name (i := 0) (k := .sh)) (da_cons (de_name (i := 3) (k := .sh)) da_nil))))) db_stuck (db_nil (.keep (.keep (.drop (.drop (.nil)))))))) (fun s5 => (db_nil (.drop (.keep (.keep (.keep (.nil)))))))))

/-! ### is_pareto_giving -/
abbrev s_is_pareto_giving : Stmt := topS 20
abbrev n_is_pareto_giving : List Str := ["seekers", "told", "left", "taken", "good", "one"]
theorem sc_is_pareto_giving : FnScope n_is_pareto_giving ["seekers", "told"] (defScope s_is_pareto_giving) := ⟨rfl, rfl, rfl, by decide +kernel, rfl, by decide +kernel, by decide +kernel⟩
def b_is_pareto_giving (d1 : D) (d2 : D) : Res (Fl Unit Empty) :=
  ((((Res.ok d1) >>= fun x5 => (((((Res.ok d2) >>= fun x1 => (Res.ok []) >>= fun x2 => Res.ok (x1 :: x2)) >>= mkL) >>= capK .ow) >>= fun x3 => (Res.ok []) >>= fun x4 => Res.ok (x3 :: x4)) >>= fun x6 => Res.ok (x5 :: x6)) >>= m_check_givings) >>= fun _ => (((((Res.ok d2) >>= lenD) >>= fun x7 => rngL (.int 0) x7 >>= fun l => Res.ok (.list l)) >>= capK .ow) >>= fun v8 => ((((Res.ok []) >>= mkL) >>= capK .ow) >>= fun v9 => (Fl.seq (whileD (fun (s10 : D × D) => (((Res.ok s10.1) >>= lenD) >>= fun x11 => (Res.ok (PyData.int 0)) >>= fun x12 => gtI x11 x12)) (fun (s10 : D × D) => (((lcR ((Res.ok s10.1) >>= seqL) (fun q14 => (Res.ok q14) >>= fun (u15 : D) => lcF (((Res.ok d2) >>= fun x16 => (Res.ok u15) >>= fun x17 => ixD x16 x17) >>= fun x26 => (((((Res.ok d1) >>= fun x18 => (Res.ok (PyData.int 0)) >>= fun x19 => ixD x18 x19) >>= fun x20 => (Res.ok u15) >>= fun x21 => ixD x20 x21) >>= fun x24 => ((Res.ok s10.2) >>= fun x22 => (Res.ok []) >>= fun x23 => Res.ok (x22 :: x23)) >>= fun x25 => Res.ok (x24 :: x25)) >>= m_best_left) >>= fun x27 => eqD x26 x27) (Res.ok u15))) >>= capK .ow) >>= fun v28 => ((((Res.ok v28) >>= lenD) >>= fun x29 => (Res.ok (PyData.int 0)) >>= fun x30 => eqD x29 x30) >>= fun t31 => if t31 then Fl.seq (((Res.ok (PyData.bool false)) >>= fun v32 => Res.ok (Fl.rt v32)) : Res (Fl Empty _)) (fun s => nomatch s) else (((((Res.ok s10.2) >>= starL true .sh >>= fun x39 => (((Res.ok d2) >>= fun x37 => ((Res.ok v28) >>= fun x35 => (Res.ok (PyData.int 0)) >>= fun x36 => ixD x35 x36) >>= fun x38 => ixD x37 x38) >>= fun x33 => (Res.ok []) >>= fun x34 => Res.ok (x33 :: x34)) >>= fun x40 => Res.ok (x39 ++ x40)) >>= mkL) >>= capK .ow) >>= fun v41 => ((lcR ((Res.ok s10.1) >>= seqL) (fun q43 => (Res.ok q43) >>= fun (u44 : D) => lcF ((Res.ok u44) >>= fun x47 => ((Res.ok v28) >>= fun x45 => (Res.ok (PyData.int 0)) >>= fun x46 => ixD x45 x46) >>= fun x48 => neD x47 x48) (Res.ok u44))) >>= fun v49 => (Res.ok (Fl.nx (v49, v41)))))))) fuelN (v8, v9)) (fun (s10 : D × D) => ((Res.ok (PyData.bool true)) >>= fun v50 => Res.ok (Fl.rt v50)))))))
def m_is_pareto_giving (ds : List D) : Res D := fnR .sh (rd2 b_is_pareto_giving ds)
theorem ok_is_pareto_giving {f : Addr} {fd : FuncData} (Fn : Fun K "is_pareto_giving" "is_pareto_giving" s_is_pareto_giving f fd)
    {f_check_givings : Addr} {fd_check_givings : FuncData} (G_check_givings : FG P w K mg base 3 f_check_givings fd_check_givings ["seekers", "givings"] (spD K mg [.sh, .sh] .sh m_check_givings)) (mg_check_givings : mg "check_givings" = some (.ref f_check_givings)) (kp_check_givings : PySem.W.keepIn K (.ref f_check_givings) = true) (bd_check_givings : Binds K fd_check_givings ["seekers", "givings"] [])
    {f_best_left : Addr} {fd_best_left : FuncData} (G_best_left : FG P w K mg base 1 f_best_left fd_best_left ["wish", "told"] (spD K mg [.sh, .bo] .sh m_best_left)) (mg_best_left : mg "best_left" = some (.ref f_best_left)) (kp_best_left : PySem.W.keepIn K (.ref f_best_left) = true) (bd_best_left : Binds K fd_best_left ["wish", "told"] [])
    (z_list : mg "list" = none)
    (z_range : mg "range" = none)
    (z_len : mg "len" = none) :
    FG P w K mg base 4 f fd ["seekers", "told"] (spD K mg [.sh, .sh] .sh m_is_pareto_giving) := by
  have nd := sc_is_pareto_giving.nd
  refine fn2 (b := b_is_pareto_giving) Fn sc_is_pareto_giving rfl (by decide) rfl fun cdv A outer s H F E d1 d2 hr => ?_
  unfold b_is_pareto_giving
  exact (db_expr (de_call (G_check_givings.mono (by decide)) hr mg_check_givings kp_check_givings bd_check_givings passF (da_cons (de_name (i := 0) (k := .sh)) (da_cons (de_sh (de_list (t := true) (dl_cons (t := true) (de_name (i := 1) (k := .sh)) dl_nil))) da_nil))) (db_set (i := 2) nd (de_sh (de_lrng1 rfl z_list z_range (de_len z_len (de_name (i := 1) (k := .sh))))) (fun v8 => (db_set (i := 3) nd (de_sh (de_list (t := true) dl_nil)) (fun v9 => (db_while (le := fun (s10 : D × D) => [some (.sh, d1), some (.sh, d2), some (.sh, s10.1), some (.sh, s10.2), none, none]) fuelN (v8, v9) passOwnF (.keep (.keep (.keep (.keep (.keep (.keep (.nil))))))) (fun s10 => (dt_c c_gt (de_len z_len (de_name (i := 2) (k := .sh))) de_int)) (fun s10 => (db_set (i := 4) nd (de_sh (de_lc true (names := [("one", 5)]) rfl nd (di_list (de_name (i := 2) (k := .sh))) (blkOk_by (by kernel_rfl)) (fun s H A cl fp => (dg_name (b := true) (i := 5) nd)) (fun s H A cl fp _ => (dts_one (dt_c (c_eq hr.un64) (de_ix (de_name (i := 1) (k := .sh)) (de_name (i := 5) (k := .sh))) (de_call (G_best_left.mono (by decide)) hr mg_best_left kp_best_left bd_best_left passL (da_cons (de_ix (de_ix (de_name (i := 0) (k := .sh)) de_int) (de_name (i := 5) (k := .sh))) (da_cons (de_name (i := 3) (k := .sh)) da_nil)))))) (fun s H A cl fp _ => (de_name (i := 5) (k := .sh))) nx_ok (by decide) (fun _ => (EnvLe.set rfl)))) (fun v28 => (db_ifr (poE := fun s => nomatch s) (dt_c (c_eq hr.un64) (de_len z_len (de_name (i := 4) (k := .sh))) de_int) (db_ret de_bl) (db_set (i := 3) nd (de_sh (de_list (t := true) (dl_star (de_name (i := 3) (k := .sh)) (dl_cons (t := true) (de_ix (de_name (i := 1) (k := .sh)) (de_ix (de_name (i := 4) (k := .sh)) de_int)) dl_nil)))) (fun v41 => (db_setLc (i := 2) (names := [("one", 5)]) rfl nd (di_list (de_name (i := 2) (k := .sh))) (blkOk_by (by kernel_rfl)) (fun s H A cl fp => (dg_name (b := true) (i := 5) nd)) (fun s H A cl fp _ => (dts_one (dt_c (c_ne hr.un64) (de_name (i := 5) (k := .sh)) (de_ix (de_name (i := 4) (k := .sh)) de_int)))) (fun s H A cl fp _ => (de_name (i := 5) (k := .sh))) nx_ok (by decide) (fun _ => (EnvLe.set rfl)) (fun v49 => (db_wk (wk_frz 2) (db_nil (.keep (.keep (.keep (.keep (.drop (.keep (.nil))))))))))))))))) (fun s10 => (db_ret de_bl))))))))

/-! ### turns_of -/
abbrev s_turns_of : Stmt := topS 18
abbrev n_turns_of : List Str := ["seekers", "order", "told", "one"]
theorem sc_turns_of : FnScope n_turns_of ["seekers", "order"] (defScope s_turns_of) := ⟨rfl, rfl, rfl, by decide +kernel, rfl, by decide +kernel, by decide +kernel⟩
def b_turns_of (d1 : D) (d2 : D) : Res (Fl Unit Empty) :=
  (((((Res.ok PyData.none) >>= fun x1 => (Res.ok []) >>= fun x2 => Res.ok (x1 :: x2)) >>= mkL) >>= fun x3 => ((Res.ok d2) >>= lenD) >>= fun x4 => repL x3 x4) >>= fun v5 => (((Res.ok d2) >>= seqL) >>= fun l => Fl.seq (forD (fun q8 (s6 : D) => (Res.ok q8) >>= fun (u9 : D) => ((((((Res.ok d1) >>= fun x10 => (Res.ok (PyData.int 0)) >>= fun x11 => ixD x10 x11) >>= fun x12 => (Res.ok u9) >>= fun x13 => ixD x12 x13) >>= fun x16 => ((Res.ok s6) >>= fun x14 => (Res.ok []) >>= fun x15 => Res.ok (x14 :: x15)) >>= fun x17 => Res.ok (x16 :: x17)) >>= m_best_left) >>= fun x18 => (Res.ok u9) >>= fun x19 => setD s6 x19 x18 >>= fun v20 => (Res.ok (Fl.nx v20)))) l v5) (fun (s6 : D) => (Res.ok (Fl.rt s6)))))
def m_turns_of (ds : List D) : Res D := fnR .ow (rd2 b_turns_of ds)
theorem ok_turns_of {f : Addr} {fd : FuncData} (Fn : Fun K "turns_of" "turns_of" s_turns_of f fd)
    {f_best_left : Addr} {fd_best_left : FuncData} (G_best_left : FG P w K mg base 1 f_best_left fd_best_left ["wish", "told"] (spD K mg [.sh, .bo] .sh m_best_left)) (mg_best_left : mg "best_left" = some (.ref f_best_left)) (kp_best_left : PySem.W.keepIn K (.ref f_best_left) = true) (bd_best_left : Binds K fd_best_left ["wish", "told"] [])
    (z_len : mg "len" = none) :
    FG P w K mg base 2 f fd ["seekers", "order"] (spD K mg [.sh, .sh] .ow m_turns_of) := by
  have nd := sc_turns_of.nd
  refine fn2 (b := b_turns_of) Fn sc_turns_of rfl (by decide) rfl fun cdv A outer s H F E d1 d2 hr => ?_
  unfold b_turns_of
  exact (db_set (i := 2) nd (de_rep (de_list (t := true) (dl_cons (t := true) de_non dl_nil)) (de_len z_len (de_name (i := 1) (k := .sh)))) (fun v5 => (db_for (b := true) (le := fun (s6 : D) => [some (.sh, d1), none, some (.ow, s6), none]) v5 passOwnF rfl (di_list (de_name (i := 1) (k := .sh))) (.keep (.drop (.keep (.keep (.nil))))) (fun s6 => (dg_name (b := true) (i := 3) nd)) nx_ok (fun s6 u9 => (db_seti (t := true) (i := 2) (de_call (G_best_left.mono (by decide)) hr mg_best_left kp_best_left bd_best_left passF (da_cons (de_ix (de_ix (de_name (i := 0) (k := .sh)) de_int) (de_name (i := 3) (k := .sh))) (da_cons (de_name (i := 2) (k := .ow)) da_nil))) (de_name (i := 3) (k := .sh)) (fun v20 => (db_nil (.keep (.keep (.keep (.drop (.nil))))))))) (fun s6 => (db_retO (i := 2))))))

/-! ### by_turns -/
abbrev s_by_turns : Stmt := topS 19
abbrev n_by_turns : List Str := ["seekers", "order"]
theorem sc_by_turns : FnScope n_by_turns ["seekers", "order"] (defScope s_by_turns) := ⟨rfl, rfl, rfl, by decide +kernel, rfl, by decide +kernel, by decide +kernel⟩
def b_by_turns (d1 : D) (d2 : D) : Res (Fl Unit Empty) :=
  ((((Res.ok d1) >>= fun x3 => ((Res.ok d2) >>= fun x1 => (Res.ok []) >>= fun x2 => Res.ok (x1 :: x2)) >>= fun x4 => Res.ok (x3 :: x4)) >>= m_check_order) >>= fun _ => ((((Res.ok d1) >>= fun x7 => ((Res.ok d2) >>= fun x5 => (Res.ok []) >>= fun x6 => Res.ok (x5 :: x6)) >>= fun x8 => Res.ok (x7 :: x8)) >>= m_turns_of) >>= fun v9 => Res.ok (Fl.rt v9)))
def m_by_turns (ds : List D) : Res D := fnR .ow (rd2 b_by_turns ds)
theorem ok_by_turns {f : Addr} {fd : FuncData} (Fn : Fun K "by_turns" "by_turns" s_by_turns f fd)
    {f_check_order : Addr} {fd_check_order : FuncData} (G_check_order : FG P w K mg base 3 f_check_order fd_check_order ["seekers", "order"] (spD K mg [.sh, .sh] .sh m_check_order)) (mg_check_order : mg "check_order" = some (.ref f_check_order)) (kp_check_order : PySem.W.keepIn K (.ref f_check_order) = true) (bd_check_order : Binds K fd_check_order ["seekers", "order"] [])
    {f_turns_of : Addr} {fd_turns_of : FuncData} (G_turns_of : FG P w K mg base 2 f_turns_of fd_turns_of ["seekers", "order"] (spD K mg [.sh, .sh] .ow m_turns_of)) (mg_turns_of : mg "turns_of" = some (.ref f_turns_of)) (kp_turns_of : PySem.W.keepIn K (.ref f_turns_of) = true) (bd_turns_of : Binds K fd_turns_of ["seekers", "order"] []) :
    FG P w K mg base 4 f fd ["seekers", "order"] (spD K mg [.sh, .sh] .ow m_by_turns) := by
  have nd := sc_by_turns.nd
  refine fn2 (b := b_by_turns) Fn sc_by_turns rfl (by decide) rfl fun cdv A outer s H F E d1 d2 hr => ?_
  unfold b_by_turns
  exact (db_expr (de_call (G_check_order.mono (by decide)) hr mg_check_order kp_check_order bd_check_order passF (da_cons (de_name (i := 0) (k := .sh)) (da_cons (de_name (i := 1) (k := .sh)) da_nil))) (db_ret (de_call (G_turns_of.mono (by decide)) hr mg_turns_of kp_turns_of bd_turns_of passF (da_cons (de_name (i := 0) (k := .sh)) (da_cons (de_name (i := 1) (k := .sh)) da_nil)))))

/-! ### _law_best -/
abbrev s__law_best : Stmt := topS 30
abbrev n__law_best : List Str := ["seekers", "told", "one", "thing"]
theorem sc__law_best : FnScope n__law_best ["seekers", "told", "one"] (defScope s__law_best) := ⟨rfl, rfl, rfl, by decide +kernel, rfl, by decide +kernel, by decide +kernel⟩
def b__law_best (d1 : D) (d2 : D) (d3 : D) : Res (Fl Unit Empty) :=
  ((((lcR ((((Res.ok d1) >>= fun x1 => (Res.ok (PyData.int 0)) >>= fun x2 => ixD x1 x2) >>= fun x3 => (Res.ok d3) >>= fun x4 => ixD x3 x4) >>= seqL) (fun q6 => (Res.ok q6) >>= fun (u7 : D) => lcF ((Res.ok u7) >>= fun x8 => (Res.ok d2) >>= fun x9 => ninL x8 x9) (Res.ok u7))) >>= fun x12 => (((Res.ok PyData.none) >>= fun x10 => (Res.ok []) >>= fun x11 => Res.ok (x10 :: x11)) >>= mkL) >>= fun x13 => addL .ow .ow x12 x13) >>= fun x14 => (Res.ok (PyData.int 0)) >>= fun x15 => ixD x14 x15) >>= fun v16 => Res.ok (Fl.rt v16))
def m__law_best (ds : List D) : Res D := fnR .sh (rd3 b__law_best ds)
theorem ok__law_best {f : Addr} {fd : FuncData} (Fn : Fun K "_law_best" "_law_best" s__law_best f fd) :
    FG P w K mg base 1 f fd ["seekers", "told", "one"] (spD K mg [.sh, .bo, .sh] .sh m__law_best) := by
  have nd := sc__law_best.nd
  refine fn3 (b := b__law_best) Fn sc__law_best rfl (by decide) rfl fun cdv A outer s H F E d1 d2 d3 hr => ?_
  unfold b__law_best
  exact (db_ret (de_ix (de_addL (de_lc true (names := [("thing", 3)]) rfl nd (di_list (de_ix (de_ix (de_name (i := 0) (k := .sh)) de_int) (de_name (i := 2) (k := .sh)))) (blkOk_by (by kernel_rfl)) (fun s H A cl fp => (dg_name (b := true) (i := 3) nd)) (fun s H A cl fp _ => (dts_one (dt_c (c_nin hr.un65) (de_name (i := 3) (k := .sh)) (de_name (i := 1) (k := .bo))))) (fun s H A cl fp _ => (de_name (i := 3) (k := .sh))) nx_ok (by decide) (fun _ => (EnvLe.set rfl))) (de_list (t := true) (dl_cons (t := true) de_non dl_nil))) de_int))

/-! ### _law_claims -/
abbrev s__law_claims : Stmt := topS 31
abbrev n__law_claims : List Str := ["seekers", "order", "claims", "told", "done", "here", "road", "thing", "owner", "last", "ring", "things", "t", "one"]
theorem sc__law_claims : FnScope n__law_claims ["seekers", "order", "claims"] (defScope s__law_claims) := ⟨rfl, rfl, rfl, by decide +kernel, rfl, by decide +kernel, by decide +kernel⟩
def b__law_claims (d1 : D) (d2 : D) (d3 : D) : Res (Fl Unit Empty) :=
  (((((Res.ok PyData.none) >>= fun x1 => (Res.ok []) >>= fun x2 => Res.ok (x1 :: x2)) >>= mkL) >>= fun x3 => ((Res.ok d2) >>= lenD) >>= fun x4 => repL x3 x4) >>= fun v5 => (((Res.ok []) >>= mkL) >>= fun v6 => (Fl.seq (whileD (fun (s7 : D × D) => (((Res.ok s7.2) >>= lenD) >>= fun x8 => ((Res.ok d2) >>= lenD) >>= fun x9 => ltI x8 x9)) (fun (s7 : D × D) => (((lcR ((Res.ok d2) >>= seqL) (fun q11 => (Res.ok q11) >>= fun (u12 : D) => lcF ((Res.ok u12) >>= fun x13 => (Res.ok s7.2) >>= fun x14 => ninL x13 x14) (Res.ok u12))) >>= fun x15 => (Res.ok (PyData.int 0)) >>= fun x16 => ixD x15 x16) >>= fun v17 => (((Res.ok []) >>= mkL) >>= fun v18 => (Fl.seq (whileD (fun (s19 : D × D) => (((Res.ok s19.1) >>= fun x20 => (Res.ok PyData.none) >>= fun x21 => isntD x20 x21) >>= fun t24 => if t24 then ((Res.ok s19.1) >>= fun x22 => (Res.ok s19.2) >>= fun x23 => ninL x22 x23) else Res.ok false)) (fun (s19 : D × D) => ((Res.ok s19.1) >>= fun x26 => appD s19.2 x26 >>= fun v25 => ((((Res.ok d1) >>= fun x31 => ((Res.ok s7.1) >>= fun x29 => ((Res.ok s19.1) >>= fun x27 => (Res.ok []) >>= fun x28 => Res.ok (x27 :: x28)) >>= fun x30 => Res.ok (x29 :: x30)) >>= fun x32 => Res.ok (x31 :: x32)) >>= m__law_best) >>= fun v33 => ((((lcR ((Res.ok d2) >>= seqL) (fun q35 => (Res.ok q35) >>= fun (u36 : D) => lcF (((Res.ok u36) >>= fun x37 => (Res.ok s7.2) >>= fun x38 => ninL x37 x38) >>= fun t49 => if t49 then ((((Res.ok d3) >>= fun x39 => (Res.ok u36) >>= fun x40 => ixD x39 x40) >>= fun x41 => (Res.ok v33) >>= fun x42 => eqD x41 x42) >>= fun t48 => if t48 then (((Res.ok v33) >>= fun x43 => (Res.ok PyData.none) >>= fun x44 => isntD x43 x44) >>= fun t47 => if t47 then ((Res.ok u36) >>= fun x45 => (Res.ok s19.1) >>= fun x46 => neD x45 x46) else Res.ok false) else Res.ok false) else Res.ok false) (Res.ok u36))) >>= fun x52 => (((Res.ok PyData.none) >>= fun x50 => (Res.ok []) >>= fun x51 => Res.ok (x50 :: x51)) >>= mkL) >>= fun x53 => addL .ow .ow x52 x53) >>= fun x54 => (Res.ok (PyData.int 0)) >>= fun x55 => ixD x54 x55) >>= fun v56 => ((Res.ok v56) >>= fun v57 => (Res.ok (Fl.nx (v57, v25)))))))) fuelN (v17, v18)) (fun (s19 : D × D) => (((Res.ok s19.1) >>= fun x58 => (Res.ok PyData.none) >>= fun x59 => isD x58 x59) >>= fun t60 => Fl.seq (if t60 then (((Res.ok s19.2) >>= fun x63 => ((Res.ok (PyData.int 1)) >>= fun x62 => negI x62) >>= fun x64 => ixD x63 x64) >>= fun v65 => ((((Res.ok d1) >>= fun x70 => ((Res.ok s7.1) >>= fun x68 => ((Res.ok v65) >>= fun x66 => (Res.ok []) >>= fun x67 => Res.ok (x66 :: x67)) >>= fun x69 => Res.ok (x68 :: x69)) >>= fun x71 => Res.ok (x70 :: x71)) >>= m__law_best) >>= fun x72 => (Res.ok v65) >>= fun x73 => setD s7.1 x73 x72 >>= fun v74 => ((Res.ok v65) >>= fun x76 => appD s7.2 x76 >>= fun v75 => (Res.ok (Fl.nx (v74, v75)))))) else ((((Res.ok s19.2) >>= fun x80 => (((Res.ok s19.2) >>= fun x77 => asL x77 >>= fun x78 => (Res.ok s19.1) >>= fun x79 => indexL x78 x79) >>= toI) >>= fun x81 => (Res.ok none) >>= fun x82 => slcL true .sh x80 x81 x82) >>= capK .ow) >>= fun v83 => ((lcR ((Res.ok v83) >>= seqL) (fun q85 => (Res.ok q85) >>= fun (u86 : D) => lcF (Res.ok true) (((Res.ok d1) >>= fun x91 => ((Res.ok s7.1) >>= fun x89 => ((Res.ok u86) >>= fun x87 => (Res.ok []) >>= fun x88 => Res.ok (x87 :: x88)) >>= fun x90 => Res.ok (x89 :: x90)) >>= fun x92 => Res.ok (x91 :: x92)) >>= m__law_best))) >>= fun v93 => ((((Res.ok v83) >>= lenD) >>= fun x94 => rngL (.int 0) x94) >>= fun l => Fl.seq (forD (fun q98 (s96 : D) => (Res.ok q98) >>= fun (u99 : D) => (((Res.ok v93) >>= fun x100 => (Res.ok u99) >>= fun x101 => ixD x100 x101) >>= fun x104 => ((Res.ok v83) >>= fun x102 => (Res.ok u99) >>= fun x103 => ixD x102 x103) >>= fun x105 => setD s96 x105 x104 >>= fun v106 => (Res.ok (Fl.nx v106)))) l s7.1) (fun (s96 : D) => (((Res.ok s7.2) >>= fun x107 => (Res.ok v83) >>= fun x108 => addL .sh .sh x107 x108) >>= fun v109 => (Res.ok (Fl.nx (s96, v109))))))))) (fun (s61 : D × D) => (Res.ok (Fl.nx (s61.1, s61.2)))))))))) fuelN (v5, v6)) (fun (s7 : D × D) => (Res.ok (Fl.rt s7.1))))))
def m__law_claims (ds : List D) : Res D := fnR .ow (rd3 b__law_claims ds)
theorem ok__law_claims {f : Addr} {fd : FuncData} (Fn : Fun K "_law_claims" "_law_claims" s__law_claims f fd)
    {f__law_best : Addr} {fd__law_best : FuncData} (G__law_best : FG P w K mg base 1 f__law_best fd__law_best ["seekers", "told", "one"] (spD K mg [.sh, .bo, .sh] .sh m__law_best)) (mg__law_best : mg "_law_best" = some (.ref f__law_best)) (kp__law_best : PySem.W.keepIn K (.ref f__law_best) = true) (bd__law_best : Binds K fd__law_best ["seekers", "told", "one"] [])
    (z_len : mg "len" = none)
    (z_range : mg "range" = none) :
    FG P w K mg base 2 f fd ["seekers", "order", "claims"] (spD K mg [.sh, .sh, .sh] .ow m__law_claims) := by
  have nd := sc__law_claims.nd
  refine fn3 (b := b__law_claims) Fn sc__law_claims rfl (by decide) rfl fun cdv A outer s H F E d1 d2 d3 hr => ?_
  unfold b__law_claims
  exact (db_set (i := 3) nd (de_rep (de_list (t := true) (dl_cons (t := true) de_non dl_nil)) (de_len z_len (de_name (i := 1) (k := .sh)))) (fun v5 => (db_set (i := 4) nd (de_list (t := true) dl_nil) (fun v6 => (db_while (le := fun (s7 : D × D) => [some (.sh, d1), some (.sh, d2), some (.sh, d3), some (.ow, s7.1), some (.ow, s7.2), none, none, none, none, none, none, none, none, none]) fuelN (v5, v6) passOwnF (.keep (.keep (.keep (.keep (.keep (.keep (.keep (.keep (.keep (.keep (.keep (.keep (.keep (.keep (.nil))))))))))))))) (fun s7 => (dt_c c_lt (de_len z_len (de_name (i := 4) (k := .ow))) (de_len z_len (de_name (i := 1) (k := .sh))))) (fun s7 => (db_set (i := 5) nd (de_ix (de_lc true (names := [("one", 13)]) rfl nd (di_list (de_name (i := 1) (k := .sh))) (blkOk_by (by kernel_rfl)) (fun s H A cl fp => (dg_name (b := true) (i := 13) nd)) (fun s H A cl fp _ => (dts_one (dt_c (c_nin hr.un65) (de_name (i := 13) (k := .sh)) (de_name (i := 4) (k := .vs))))) (fun s H A cl fp _ => (de_name (i := 13) (k := .sh))) nx_ok (by decide) (fun _ => (EnvLe.set rfl))) de_int) (fun v17 => (db_set (i := 6) nd (de_list (t := true) dl_nil) (fun v18 => (db_while (le := fun (s19 : D × D) => [some (.sh, d1), some (.sh, d2), some (.sh, d3), some (.ow, s7.1), some (.ow, s7.2), some (.sh, s19.1), some (.ow, s19.2), none, none, none, none, none, none, none]) fuelN (v17, v18) passOwnF (.keep (.keep (.keep (.keep (.keep (.keep (.keep (.keep (.keep (.keep (.keep (.keep (.keep (.keep (.nil))))))))))))))) (fun s19 => (dt_w (dw_and (dt_c c_isnt (de_name (i := 5) (k := .sh)) de_non) (dw_and1 (dt_c (c_nin hr.un65) (de_name (i := 5) (k := .sh)) (de_name (i := 6) (k := .ow))))))) (fun s19 => (db_app (t := true) (i := 6) (de_name (i := 5) (k := .sh)) (fun v25 => (db_set (i := 7) nd (de_call (G__law_best.mono (by decide)) hr mg__law_best kp__law_best bd__law_best passF (da_cons (de_name (i := 0) (k := .sh)) (da_cons (de_name (i := 3) (k := .ow)) (da_cons (de_name (i := 5) (k := .sh)) da_nil)))) (fun v33 => (db_set (i := 8) nd (de_ix (de_addL (de_lc true (names := [("one", 13)]) rfl nd (di_list (de_name (i := 1) (k := .sh))) (blkOk_by (by kernel_rfl)) (fun s H A cl fp => (dg_name (b := true) (i := 13) nd)) (fun s H A cl fp _ => (dts_one (dt_w (dw_and (dt_c (c_nin hr.un65) (de_name (i := 13) (k := .sh)) (de_name (i := 4) (k := .vs))) (dw_and (dt_c (c_eq hr.un64) (de_ix (de_name (i := 2) (k := .sh)) (de_name (i := 13) (k := .sh))) (de_name (i := 7) (k := .sh))) (dw_and (dt_c c_isnt (de_name (i := 7) (k := .sh)) de_non) (dw_and1 (dt_c (c_ne hr.un64) (de_name (i := 13) (k := .sh)) (de_name (i := 5) (k := .sh)))))))))) (fun s H A cl fp _ => (de_name (i := 13) (k := .sh))) nx_ok (by decide) (fun _ => (EnvLe.set rfl))) (de_list (t := true) (dl_cons (t := true) de_non dl_nil))) de_int) (fun v56 => (db_set (i := 5) nd (de_name (i := 8) (k := .sh)) (fun v57 => (db_nil (.keep (.keep (.keep (.keep (.keep (.keep (.keep (.drop (.drop (.keep (.keep (.keep (.keep (.keep (.nil))))))))))))))))))))))))) (fun s19 => (db_wk (wk_frz 6) (db_if (po1 := fun (s61 : D × D) => [some (.sh, d1), some (.sh, d2), some (.sh, d3), some (.ow, s61.1), some (.ow, s61.2), none, none, none, none, none, none, none, none, none]) (dt_c c_is (de_name (i := 5) (k := .sh)) de_non) (db_set (i := 9) nd (de_ix (de_name (i := 6) (k := .sh)) (de_neg de_int)) (fun v65 => (db_seti (t := true) (i := 3) (de_call (G__law_best.mono (by decide)) hr mg__law_best kp__law_best bd__law_best passF (da_cons (de_name (i := 0) (k := .sh)) (da_cons (de_name (i := 3) (k := .ow)) (da_cons (de_name (i := 9) (k := .sh)) da_nil)))) (de_name (i := 9) (k := .sh)) (fun v74 => (db_app (t := true) (i := 4) (de_name (i := 9) (k := .sh)) (fun v75 => (db_nil (.keep (.keep (.keep (.keep (.keep (.drop (.drop (.keep (.keep (.drop (.keep (.keep (.keep (.keep (.nil)))))))))))))))))))))) (db_wk (wk_frz 4) (db_set (i := 10) nd (de_sh (de_slice (de_name (i := 6) (k := .sh)) (do_some (de_index hr.un65 (de_name (i := 6) (k := .sh)) (de_name (i := 5) (k := .sh)))) do_none)) (fun v83 => (db_setLc (i := 11) (names := [("one", 13)]) rfl nd (di_list (de_name (i := 10) (k := .sh))) (blkOk_by (by kernel_rfl)) (fun s H A cl fp => (dg_name (b := true) (i := 13) nd)) (fun s H A cl fp _ => dts_nil) (fun s H A cl fp _ => (de_call (G__law_best.mono (by decide)) hr mg__law_best kp__law_best bd__law_best passL (da_cons (de_name (i := 0) (k := .sh)) (da_cons (de_name (i := 3) (k := .vs)) (da_cons (de_name (i := 13) (k := .sh)) da_nil))))) nx_ok (by decide) (fun _ => (EnvLe.set rfl)) (fun v93 => (db_wk (wk_frz 11) (db_for (b := true) (le := fun (s96 : D) => [some (.sh, d1), some (.sh, d2), some (.sh, d3), some (.ow, s96), some (.sh, s7.2), none, none, none, none, none, some (.sh, v83), some (.sh, v93), none, none]) s7.1 passOwnF rfl (di_rng1 z_range (de_len z_len (de_name (i := 10) (k := .sh)))) (.keep (.keep (.keep (.keep (.keep (.drop (.drop (.keep (.keep (.keep (.keep (.keep (.keep (.keep (.nil))))))))))))))) (fun s96 => (dg_name (b := true) (i := 12) nd)) nx_ok (fun s96 u99 => (db_seti (t := true) (i := 3) (de_ix (de_name (i := 11) (k := .sh)) (de_name (i := 12) (k := .sh))) (de_ix (de_name (i := 10) (k := .sh)) (de_name (i := 12) (k := .sh))) (fun v106 => (db_nil (.keep (.keep (.keep (.keep (.keep (.keep (.keep (.keep (.keep (.keep (.keep (.keep (.drop (.keep (.nil))))))))))))))))))) (fun s96 => (db_set (i := 4) nd (de_addL (de_name (i := 4) (k := .sh)) (de_name (i := 10) (k := .sh))) (fun v109 => (db_nil (.keep (.keep (.keep (.keep (.keep (.keep (.keep (.keep (.keep (.keep (.drop (.drop (.keep (.keep (.nil)))))))))))))))))))))))))) (fun s61 => (db_nil (.keep (.keep (.keep (.keep (.keep (.keep (.keep (.keep (.keep (.keep (.keep (.keep (.keep (.keep (.nil)))))))))))))))))))))))))) (fun s7 => (db_retO (i := 3))))))))

/-! ### _law_place -/
abbrev s__law_place : Stmt := topS 29
abbrev n__law_place : List Str := ["wish", "one"]
theorem sc__law_place : FnScope n__law_place ["wish", "one"] (defScope s__law_place) := ⟨rfl, rfl, rfl, by decide +kernel, rfl, by decide +kernel, by decide +kernel⟩
def b__law_place (d1 : D) (d2 : D) : Res (Fl Unit Empty) :=
  (((Res.ok d2) >>= fun x1 => (Res.ok PyData.none) >>= fun x2 => isD x1 x2) >>= fun t3 => if t3 then Fl.seq ((((Res.ok d1) >>= lenD) >>= fun v4 => Res.ok (Fl.rt v4)) : Res (Fl Empty _)) (fun s => nomatch s) else (((Res.ok d1) >>= fun x5 => asL x5 >>= fun x6 => (Res.ok d2) >>= fun x7 => indexL x6 x7) >>= fun v8 => Res.ok (Fl.rt v8)))
def m__law_place (ds : List D) : Res D := fnR .sh (rd2 b__law_place ds)
theorem ok__law_place {f : Addr} {fd : FuncData} (Fn : Fun K "_law_place" "_law_place" s__law_place f fd)
    (z_len : mg "len" = none) :
    FG P w K mg base 1 f fd ["wish", "one"] (spD K mg [.sh, .sh] .sh m__law_place) := by
  have nd := sc__law_place.nd
  refine fn2 (b := b__law_place) Fn sc__law_place rfl (by decide) rfl fun cdv A outer s H F E d1 d2 hr => ?_
  unfold b__law_place
  exact (db_ifr (poE := fun s => nomatch s) (dt_c c_is (de_name (i := 1) (k := .sh)) de_non) (db_ret (de_len z_len (de_name (i := 0) (k := .sh)))) (db_ret (de_index hr.un65 (de_name (i := 0) (k := .sh)) (de_name (i := 1) (k := .sh)))))

/-! ### law -/
abbrev s_law : Stmt := topS 32
abbrev n_law : List Str := ["script", "draws", "seekers", "many", "kept", "every", "turn", "lists", "things", "order", "claims", "told", "other", "gaps", "k"]
theorem sc_law : FnScope n_law ["script"] (defScope s_law) := ⟨rfl, rfl, rfl, by decide +kernel, rfl, by decide +kernel, by decide +kernel⟩
def b_law (d1 : D) : Res (Fl Unit Empty) :=
  (((((Res.ok d1) >>= fun x1 => (Res.ok []) >>= fun x2 => Res.ok (x1 :: x2)) >>= m__law_draws) >>= capK .ow) >>= fun v3 => ((((Res.ok v3) >>= fun x10 => ((Res.ok (PyData.int 10)) >>= fun x8 => ((Res.ok (PyData.int 5)) >>= fun x6 => ((Res.ok (PyData.int 4)) >>= fun x4 => (Res.ok []) >>= fun x5 => Res.ok (x4 :: x5)) >>= fun x7 => Res.ok (x6 :: x7)) >>= fun x9 => Res.ok (x8 :: x9)) >>= fun x11 => Res.ok (x10 :: x11)) >>= m__law_seekers) >>= fun v12 => ((Res.ok v12) >>= fun q16 => ((unT 2 (unC (fun q13 => Res.ok q13) (un1 (fun q14 => Res.ok q14)))) q16) >>= fun (u15 : D × D) => (((Res.ok u15.1) >>= lenD) >>= fun v17 => (((Res.ok v12) >>= repD) >>= fun v18 => ((((Res.ok v12) >>= fun x19 => (Res.ok []) >>= fun x20 => Res.ok (x19 :: x20)) >>= m__law_givings) >>= fun v21 => (((Res.ok (PyData.int 3)) >>= fun x22 => rngL (.int 0) x22) >>= fun l => Fl.seq (forD (fun q26 (s24 : Unit) => (Res.ok q26) >>= fun (u27 : D) => (((((Res.ok v3) >>= fun x36 => (((Res.ok (PyData.int 100)) >>= fun x30 => ((Res.ok (PyData.int 10)) >>= fun x28 => (Res.ok u27) >>= fun x29 => mulI x28 x29) >>= fun x31 => addI x30 x31) >>= fun x34 => ((Res.ok v17) >>= fun x32 => (Res.ok []) >>= fun x33 => Res.ok (x32 :: x33)) >>= fun x35 => Res.ok (x34 :: x35)) >>= fun x37 => Res.ok (x36 :: x37)) >>= m__law_order) >>= capK .ow) >>= fun v38 => (((Res.ok v21) >>= fun x47 => (((Res.ok v3) >>= fun x45 => (((Res.ok (PyData.int 130)) >>= fun x39 => (Res.ok u27) >>= fun x40 => addI x39 x40) >>= fun x43 => (((Res.ok v21) >>= lenD) >>= fun x41 => (Res.ok []) >>= fun x42 => Res.ok (x41 :: x42)) >>= fun x44 => Res.ok (x43 :: x44)) >>= fun x46 => Res.ok (x45 :: x46)) >>= m__law_mix) >>= fun x48 => ixD x47 x48) >>= fun v49 => (((((Res.ok v12) >>= fun x54 => ((Res.ok v38) >>= fun x52 => ((Res.ok v49) >>= fun x50 => (Res.ok []) >>= fun x51 => Res.ok (x50 :: x51)) >>= fun x53 => Res.ok (x52 :: x53)) >>= fun x55 => Res.ok (x54 :: x55)) >>= m_with_claims) >>= capK .ow) >>= fun v56 => (((((Res.ok v56) >>= repD) >>= fun x63 => ((((Res.ok v12) >>= fun x61 => ((Res.ok v38) >>= fun x59 => ((Res.ok v49) >>= fun x57 => (Res.ok []) >>= fun x58 => Res.ok (x57 :: x58)) >>= fun x60 => Res.ok (x59 :: x60)) >>= fun x62 => Res.ok (x61 :: x62)) >>= m__law_claims) >>= repD) >>= fun x64 => neD x63 x64) >>= fun t67 => if t67 then Res.ok true else ((Res.ok v56) >>= fun x65 => (Res.ok v21) >>= fun x66 => ninL x65 x66)) >>= fun t68 => if t68 then Fl.seq (((Res.ok (PyData.bool false)) >>= fun v69 => Res.ok (Fl.rt v69)) : Res (Fl Empty _)) (fun s => nomatch s) else ((((lcR ((Res.ok v17) >>= fun x70 => rngL (.int 0) x70) (fun q73 => (Res.ok q73) >>= fun (u74 : D) => lcF (((((Res.ok u15.1) >>= fun x75 => (Res.ok u74) >>= fun x76 => ixD x75 x76) >>= fun x81 => (((Res.ok v56) >>= fun x77 => (Res.ok u74) >>= fun x78 => ixD x77 x78) >>= fun x79 => (Res.ok []) >>= fun x80 => Res.ok (x79 :: x80)) >>= fun x82 => Res.ok (x81 :: x82)) >>= m__law_place) >>= fun x91 => ((((Res.ok u15.1) >>= fun x83 => (Res.ok u74) >>= fun x84 => ixD x83 x84) >>= fun x89 => (((Res.ok v49) >>= fun x85 => (Res.ok u74) >>= fun x86 => ixD x85 x86) >>= fun x87 => (Res.ok []) >>= fun x88 => Res.ok (x87 :: x88)) >>= fun x90 => Res.ok (x89 :: x90)) >>= m__law_place) >>= fun x92 => gtI x91 x92) (Res.ok u74))) >>= lenD) >>= fun x93 => (Res.ok (PyData.int 0)) >>= fun x94 => gtI x93 x94) >>= fun t95 => if t95 then Fl.seq (((Res.ok (PyData.bool false)) >>= fun v96 => Res.ok (Fl.rt v96)) : Res (Fl Empty _)) (fun s => nomatch s) else (((Res.ok v21) >>= seqL) >>= fun l => Fl.seq (forD (fun q99 (s97 : Unit) => (Res.ok q99) >>= fun (u100 : D) => ((lcR ((Res.ok v17) >>= fun x101 => rngL (.int 0) x101) (fun q104 => (Res.ok q104) >>= fun (u105 : D) => lcF (Res.ok true) (((((Res.ok u15.1) >>= fun x106 => (Res.ok u105) >>= fun x107 => ixD x106 x107) >>= fun x112 => (((Res.ok v56) >>= fun x108 => (Res.ok u105) >>= fun x109 => ixD x108 x109) >>= fun x110 => (Res.ok []) >>= fun x111 => Res.ok (x110 :: x111)) >>= fun x113 => Res.ok (x112 :: x113)) >>= m__law_place) >>= fun x122 => ((((Res.ok u15.1) >>= fun x114 => (Res.ok u105) >>= fun x115 => ixD x114 x115) >>= fun x120 => (((Res.ok u100) >>= fun x116 => (Res.ok u105) >>= fun x117 => ixD x116 x117) >>= fun x118 => (Res.ok []) >>= fun x119 => Res.ok (x118 :: x119)) >>= fun x121 => Res.ok (x120 :: x121)) >>= m__law_place) >>= fun x123 => subI x122 x123))) >>= fun v124 => (((((Res.ok v124) >>= minL) >>= fun x125 => (Res.ok (PyData.int 0)) >>= fun x126 => geI x125 x126) >>= fun t129 => if t129 then (((Res.ok v124) >>= maxL) >>= fun x127 => (Res.ok (PyData.int 0)) >>= fun x128 => gtI x127 x128) else Res.ok false) >>= fun t130 => if t130 then Fl.seq (((Res.ok (PyData.bool false)) >>= fun v131 => Res.ok (Fl.rt v131)) : Res (Fl Empty _)) (fun s => nomatch s) else (Res.ok (Fl.nx ()))))) l ()) (fun (s97 : Unit) => ((((((Res.ok v12) >>= fun x134 => ((Res.ok v56) >>= fun x132 => (Res.ok []) >>= fun x133 => Res.ok (x132 :: x133)) >>= fun x135 => Res.ok (x134 :: x135)) >>= m_is_pareto_giving) >>= fun x136 => (Res.ok (PyData.bool true)) >>= fun x137 => isntD x136 x137) >>= fun t154 => if t154 then Res.ok true else ((((Res.ok v12) >>= fun x146 => ((Res.ok v38) >>= fun x144 => ((((((Res.ok PyData.none) >>= fun x138 => (Res.ok []) >>= fun x139 => Res.ok (x138 :: x139)) >>= mkL) >>= fun x140 => (Res.ok v17) >>= fun x141 => repL x140 x141) >>= capK .ow) >>= fun x142 => (Res.ok []) >>= fun x143 => Res.ok (x142 :: x143)) >>= fun x145 => Res.ok (x144 :: x145)) >>= fun x147 => Res.ok (x146 :: x147)) >>= m_with_claims) >>= fun x152 => (((Res.ok v12) >>= fun x150 => ((Res.ok v38) >>= fun x148 => (Res.ok []) >>= fun x149 => Res.ok (x148 :: x149)) >>= fun x151 => Res.ok (x150 :: x151)) >>= m_by_turns) >>= fun x153 => neD x152 x153)) >>= fun t155 => if t155 then Fl.seq (((Res.ok (PyData.bool false)) >>= fun v156 => Res.ok (Fl.rt v156)) : Res (Fl Empty _)) (fun s => nomatch s) else (Res.ok (Fl.nx ()))))))))))) l ()) (fun (s24 : Unit) => (((((Res.ok v12) >>= repD) >>= fun x157 => (Res.ok v18) >>= fun x158 => eqD x157 x158 >>= bD) >>= toB >>= fun t195 => if t195 then ((((((((((((Res.ok (PyData.int 1)) >>= fun x173 => ((Res.ok (PyData.int 0)) >>= fun x171 => (Res.ok []) >>= fun x172 => Res.ok (x171 :: x172)) >>= fun x174 => Res.ok (x173 :: x174)) >>= mkL) >>= capK .ow) >>= fun x169 => (((((Res.ok (PyData.int 0)) >>= fun x167 => ((Res.ok (PyData.int 1)) >>= fun x165 => (Res.ok []) >>= fun x166 => Res.ok (x165 :: x166)) >>= fun x168 => Res.ok (x167 :: x168)) >>= mkL) >>= capK .ow) >>= fun x163 => (Res.ok []) >>= fun x164 => Res.ok (x163 :: x164)) >>= fun x170 => Res.ok (x169 :: x170)) >>= mkL) >>= capK .ow) >>= fun x161 => ((Res.ok (PyData.int 2)) >>= fun x159 => (Res.ok []) >>= fun x160 => Res.ok (x159 :: x160)) >>= fun x162 => Res.ok (x161 :: x162)) >>= mkT) >>= fun x187 => (((((Res.ok (PyData.int 0)) >>= fun x177 => ((Res.ok (PyData.int 1)) >>= fun x175 => (Res.ok []) >>= fun x176 => Res.ok (x175 :: x176)) >>= fun x178 => Res.ok (x177 :: x178)) >>= mkL) >>= capK .ow) >>= fun x185 => (((((Res.ok (PyData.int 0)) >>= fun x181 => ((Res.ok (PyData.int 1)) >>= fun x179 => (Res.ok []) >>= fun x180 => Res.ok (x179 :: x180)) >>= fun x182 => Res.ok (x181 :: x182)) >>= mkL) >>= capK .ow) >>= fun x183 => (Res.ok []) >>= fun x184 => Res.ok (x183 :: x184)) >>= fun x186 => Res.ok (x185 :: x186)) >>= fun x188 => Res.ok (x187 :: x188)) >>= m_with_claims) >>= fun x193 => (((Res.ok (PyData.int 1)) >>= fun x191 => ((Res.ok (PyData.int 0)) >>= fun x189 => (Res.ok []) >>= fun x190 => Res.ok (x189 :: x190)) >>= fun x192 => Res.ok (x191 :: x192)) >>= mkL) >>= fun x194 => eqD x193 x194 >>= bD) else Res.ok (PyData.bool false)) >>= fun v196 => Res.ok (Fl.rt v196))))))))))
def m_law (ds : List D) : Res D := fnR .sh (rd1 b_law ds)
theorem ok_law {f : Addr} {fd : FuncData} (Fn : Fun K "law" "law" s_law f fd)
    {f__law_draws : Addr} {fd__law_draws : FuncData} (G__law_draws : FG P w K mg base 1 f__law_draws fd__law_draws ["script"] (spD K mg [.kx] .ow m__law_draws)) (mg__law_draws : mg "_law_draws" = some (.ref f__law_draws)) (kp__law_draws : PySem.W.keepIn K (.ref f__law_draws) = true) (bd__law_draws : Binds K fd__law_draws ["script"] [])
    {f__law_seekers : Addr} {fd__law_seekers : FuncData} (G__law_seekers : FG P w K mg base 3 f__law_seekers fd__law_seekers ["draws", "first", "most", "wide"] (spD K mg [.sh, .sh, .sh, .sh] .sh m__law_seekers)) (mg__law_seekers : mg "_law_seekers" = some (.ref f__law_seekers)) (kp__law_seekers : PySem.W.keepIn K (.ref f__law_seekers) = true) (bd__law_seekers : Binds K fd__law_seekers ["draws", "first", "most", "wide"] [])
    {f__law_givings : Addr} {fd__law_givings : FuncData} (G__law_givings : FG P w K mg base 1 f__law_givings fd__law_givings ["seekers"] (spD K mg [.sh] .sh m__law_givings)) (mg__law_givings : mg "_law_givings" = some (.ref f__law_givings)) (kp__law_givings : PySem.W.keepIn K (.ref f__law_givings) = true) (bd__law_givings : Binds K fd__law_givings ["seekers"] [])
    {f__law_order : Addr} {fd__law_order : FuncData} (G__law_order : FG P w K mg base 2 f__law_order fd__law_order ["draws", "first", "many"] (spD K mg [.sh, .sh, .sh] .ow m__law_order)) (mg__law_order : mg "_law_order" = some (.ref f__law_order)) (kp__law_order : PySem.W.keepIn K (.ref f__law_order) = true) (bd__law_order : Binds K fd__law_order ["draws", "first", "many"] [])
    {f__law_mix : Addr} {fd__law_mix : FuncData} (G__law_mix : FG P w K mg base 1 f__law_mix fd__law_mix ["draws", "k", "many"] (spD K mg [.sh, .sh, .sh] .sh m__law_mix)) (mg__law_mix : mg "_law_mix" = some (.ref f__law_mix)) (kp__law_mix : PySem.W.keepIn K (.ref f__law_mix) = true) (bd__law_mix : Binds K fd__law_mix ["draws", "k", "many"] [])
    {f_with_claims : Addr} {fd_with_claims : FuncData} (G_with_claims : FG P w K mg base 4 f_with_claims fd_with_claims ["seekers", "order", "claims"] (spD K mg [.sh, .sh, .sh] .ow m_with_claims)) (mg_with_claims : mg "with_claims" = some (.ref f_with_claims)) (kp_with_claims : PySem.W.keepIn K (.ref f_with_claims) = true) (bd_with_claims : Binds K fd_with_claims ["seekers", "order", "claims"] [])
    {f__law_claims : Addr} {fd__law_claims : FuncData} (G__law_claims : FG P w K mg base 2 f__law_claims fd__law_claims ["seekers", "order", "claims"] (spD K mg [.sh, .sh, .sh] .ow m__law_claims)) (mg__law_claims : mg "_law_claims" = some (.ref f__law_claims)) (kp__law_claims : PySem.W.keepIn K (.ref f__law_claims) = true) (bd__law_claims : Binds K fd__law_claims ["seekers", "order", "claims"] [])
    {f__law_place : Addr} {fd__law_place : FuncData} (G__law_place : FG P w K mg base 1 f__law_place fd__law_place ["wish", "one"] (spD K mg [.sh, .sh] .sh m__law_place)) (mg__law_place : mg "_law_place" = some (.ref f__law_place)) (kp__law_place : PySem.W.keepIn K (.ref f__law_place) = true) (bd__law_place : Binds K fd__law_place ["wish", "one"] [])
    {f_is_pareto_giving : Addr} {fd_is_pareto_giving : FuncData} (G_is_pareto_giving : FG P w K mg base 4 f_is_pareto_giving fd_is_pareto_giving ["seekers", "told"] (spD K mg [.sh, .sh] .sh m_is_pareto_giving)) (mg_is_pareto_giving : mg "is_pareto_giving" = some (.ref f_is_pareto_giving)) (kp_is_pareto_giving : PySem.W.keepIn K (.ref f_is_pareto_giving) = true) (bd_is_pareto_giving : Binds K fd_is_pareto_giving ["seekers", "told"] [])
    {f_by_turns : Addr} {fd_by_turns : FuncData} (G_by_turns : FG P w K mg base 4 f_by_turns fd_by_turns ["seekers", "order"] (spD K mg [.sh, .sh] .ow m_by_turns)) (mg_by_turns : mg "by_turns" = some (.ref f_by_turns)) (kp_by_turns : PySem.W.keepIn K (.ref f_by_turns) = true) (bd_by_turns : Binds K fd_by_turns ["seekers", "order"] [])
    (z_len : mg "len" = none)
    (z_repr : mg "repr" = none)
    (z_range : mg "range" = none)
    (z_min : mg "min" = none)
    (z_max : mg "max" = none) :
    FG P w K mg base 5 f fd ["script"] (spD K mg [.kx] .sh m_law) := by
  have nd := sc_law.nd
  refine fn1 (b := b_law) Fn sc_law rfl (by decide) rfl fun cdv A outer s H F E d1 hr => ?_
  unfold b_law
  exact (db_set (i := 1) nd (de_sh (de_call (G__law_draws.mono (by decide)) hr mg__law_draws kp__law_draws bd__law_draws passF (da_cons (de_name (i := 0) (k := .kx)) da_nil))) (fun v3 => (db_set (i := 2) nd (de_call (G__law_seekers.mono (by decide)) hr mg__law_seekers kp__law_seekers bd__law_seekers passF (da_cons (de_name (i := 1) (k := .sh)) (da_cons de_int (da_cons de_int (da_cons de_int da_nil))))) (fun v12 => (db_unp (b := true) (de_name (i := 2) (k := .sh)) (dg_tup rfl (dgs_cons (dg_name (b := true) (i := 7) nd) fun _ => (dgs_one (dg_name (b := true) (i := 8) nd)))) (nx_unT (nx_unC nx_ok (nx_un1 nx_ok))) (fun u15 => (db_set (i := 3) nd (de_len z_len (de_name (i := 7) (k := .sh))) (fun v17 => (db_set (i := 4) nd (de_repr hr.2 hr.un z_repr (de_name (i := 2) (k := .sh))) (fun v18 => (db_set (i := 5) nd (de_call (G__law_givings.mono (by decide)) hr mg__law_givings kp__law_givings bd__law_givings passF (da_cons (de_name (i := 2) (k := .sh)) da_nil)) (fun v21 => (db_for (b := true) (le := fun (s24 : Unit) => [none, some (.sh, v3), some (.sh, v12), some (.sh, v17), some (.sh, v18), some (.sh, v21), none, some (.sh, u15.1), none, none, none, none, none, none, none]) () passOwnF rfl (di_rng1 z_range de_int) (.drop (.keep (.keep (.keep (.keep (.keep (.keep (.keep (.drop (.keep (.keep (.keep (.keep (.keep (.keep (.nil)))))))))))))))) (fun s24 => (dg_name (b := true) (i := 6) nd)) nx_ok (fun s24 u27 => (db_set (i := 9) nd (de_sh (de_call (G__law_order.mono (by decide)) hr mg__law_order kp__law_order bd__law_order passF (da_cons (de_name (i := 1) (k := .sh)) (da_cons (de_add de_int (de_mul de_int (de_name (i := 6) (k := .sh)))) (da_cons (de_name (i := 3) (k := .sh)) da_nil))))) (fun v38 => (db_set (i := 10) nd (de_ix (de_name (i := 5) (k := .sh)) (de_call (G__law_mix.mono (by decide)) hr mg__law_mix kp__law_mix bd__law_mix passF (da_cons (de_name (i := 1) (k := .sh)) (da_cons (de_add de_int (de_name (i := 6) (k := .sh))) (da_cons (de_len z_len (de_name (i := 5) (k := .sh))) da_nil))))) (fun v49 => (db_set (i := 11) nd (de_sh (de_call (G_with_claims.mono (by decide)) hr mg_with_claims kp_with_claims bd_with_claims passF (da_cons (de_name (i := 2) (k := .sh)) (da_cons (de_name (i := 9) (k := .sh)) (da_cons (de_name (i := 10) (k := .sh)) da_nil))))) (fun v56 => (db_ifr (poE := fun s => nomatch s) (dt_w (dw_or (dt_c (c_ne hr.un64) (de_repr hr.2 hr.un z_repr (de_name (i := 11) (k := .sh))) (de_repr hr.2 hr.un z_repr (de_call (G__law_claims.mono (by decide)) hr mg__law_claims kp__law_claims bd__law_claims passF (da_cons (de_name (i := 2) (k := .sh)) (da_cons (de_name (i := 9) (k := .sh)) (da_cons (de_name (i := 10) (k := .sh)) da_nil)))))) (dw_or1 (dt_c (c_nin hr.un65) (de_name (i := 11) (k := .sh)) (de_name (i := 5) (k := .sh)))))) (db_ret de_bl) (db_ifr (poE := fun s => nomatch s) (dt_c c_gt (de_len z_len (de_lc true (names := [("k", 14)]) rfl nd (di_rng1 z_range (de_name (i := 3) (k := .sh))) (blkOk_by (by kernel_rfl)) (fun s H A cl fp => (dg_name (b := true) (i := 14) nd)) (fun s H A cl fp _ => (dts_one (dt_c c_gt (de_call (G__law_place.mono (by decide)) hr mg__law_place kp__law_place bd__law_place passL (da_cons (de_ix (de_name (i := 7) (k := .sh)) (de_name (i := 14) (k := .sh))) (da_cons (de_ix (de_name (i := 11) (k := .sh)) (de_name (i := 14) (k := .sh))) da_nil))) (de_call (G__law_place.mono (by decide)) hr mg__law_place kp__law_place bd__law_place passL (da_cons (de_ix (de_name (i := 7) (k := .sh)) (de_name (i := 14) (k := .sh))) (da_cons (de_ix (de_name (i := 10) (k := .sh)) (de_name (i := 14) (k := .sh))) da_nil)))))) (fun s H A cl fp _ => (de_name (i := 14) (k := .sh))) nx_ok (by decide) (fun _ => (EnvLe.set rfl)))) de_int) (db_ret de_bl) (db_for (b := true) (le := fun (s97 : Unit) => [none, some (.sh, v3), some (.sh, v12), some (.sh, v17), some (.sh, v18), some (.sh, v21), none, some (.sh, u15.1), none, some (.sh, v38), none, some (.sh, v56), none, none, none]) () passOwnF rfl (di_list (de_name (i := 5) (k := .sh))) (.keep (.keep (.keep (.keep (.keep (.keep (.drop (.keep (.keep (.keep (.drop (.keep (.keep (.keep (.keep (.nil)))))))))))))))) (fun s97 => (dg_name (b := true) (i := 12) nd)) nx_ok (fun s97 u100 => (db_setLc (i := 13) (names := [("k", 14)]) rfl nd (di_rng1 z_range (de_name (i := 3) (k := .sh))) (blkOk_by (by kernel_rfl)) (fun s H A cl fp => (dg_name (b := true) (i := 14) nd)) (fun s H A cl fp _ => dts_nil) (fun s H A cl fp _ => (de_sub (de_call (G__law_place.mono (by decide)) hr mg__law_place kp__law_place bd__law_place passL (da_cons (de_ix (de_name (i := 7) (k := .sh)) (de_name (i := 14) (k := .sh))) (da_cons (de_ix (de_name (i := 11) (k := .sh)) (de_name (i := 14) (k := .sh))) da_nil))) (de_call (G__law_place.mono (by decide)) hr mg__law_place kp__law_place bd__law_place passL (da_cons (de_ix (de_name (i := 7) (k := .sh)) (de_name (i := 14) (k := .sh))) (da_cons (de_ix (de_name (i := 12) (k := .sh)) (de_name (i := 14) (k := .sh))) da_nil))))) nx_ok (by decide) (fun _ => (EnvLe.set rfl)) (fun v124 => (db_wk (wk_frz 13) (db_ifr (poE := fun s => nomatch s) (dt_w (dw_and (dt_c c_ge (de_minL rfl hr.un z_min (de_name (i := 13) (k := .sh))) de_int) (dw_and1 (dt_c c_gt (de_maxL rfl hr.un z_max (de_name (i := 13) (k := .sh))) de_int)))) (db_ret de_bl) (db_nil (.keep (.keep (.keep (.keep (.keep (.keep (.keep (.keep (.keep (.keep (.keep (.keep (.drop (.drop (.keep (.nil)))))))))))))))))))))) (fun s97 => (db_ifr (poE := fun s => nomatch s) (dt_w (dw_or (dt_c c_isnt (de_call (G_is_pareto_giving.mono (by decide)) hr mg_is_pareto_giving kp_is_pareto_giving bd_is_pareto_giving passF (da_cons (de_name (i := 2) (k := .sh)) (da_cons (de_name (i := 11) (k := .sh)) da_nil))) de_bl) (dw_or1 (dt_c (c_ne hr.un64) (de_call (G_with_claims.mono (by decide)) hr mg_with_claims kp_with_claims bd_with_claims passF (da_cons (de_name (i := 2) (k := .sh)) (da_cons (de_name (i := 9) (k := .sh)) (da_cons (de_sh (de_rep (de_list (t := true) (dl_cons (t := true) de_non dl_nil)) (de_name (i := 3) (k := .sh)))) da_nil)))) (de_call (G_by_turns.mono (by decide)) hr mg_by_turns kp_by_turns bd_by_turns passF (da_cons (de_name (i := 2) (k := .sh)) (da_cons (de_name (i := 9) (k := .sh)) da_nil))))))) (db_ret de_bl) (db_nil (.keep (.keep (.keep (.keep (.keep (.keep (.keep (.keep (.keep (.drop (.keep (.drop (.keep (.keep (.keep (.nil))))))))))))))))))))))))))))) (fun s24 => (db_ret (de_and (de_c (c_eq hr.un64) (de_repr hr.2 hr.un z_repr (de_name (i := 2) (k := .sh))) (de_name (i := 4) (k := .sh))) (de_one (de_c (c_eq hr.un64) (de_call (G_with_claims.mono (by decide)) hr mg_with_claims kp_with_claims bd_with_claims passF (da_cons (de_tup (t := true) (dl_cons (t := true) (de_sh (de_list (t := true) (dl_cons (t := true) (de_sh (de_list (t := true) (dl_cons (t := true) de_int (dl_cons (t := true) de_int dl_nil)))) (dl_cons (t := true) (de_sh (de_list (t := true) (dl_cons (t := true) de_int (dl_cons (t := true) de_int dl_nil)))) dl_nil)))) (dl_cons (t := true) de_int dl_nil))) (da_cons (de_sh (de_list (t := true) (dl_cons (t := true) de_int (dl_cons (t := true) de_int dl_nil)))) (da_cons (de_sh (de_list (t := true) (dl_cons (t := true) de_int (dl_cons (t := true) de_int dl_nil)))) da_nil)))) (de_list (t := true) (dl_cons (t := true) de_int (dl_cons (t := true) de_int dl_nil)))))))))))))))))))))
end
theorem all_mk {l : PySem.W.OpenLaw} {w : World} {K : PySem.W.Frag} {h : Heap} {mg : Str → Option Value} {fa : Addr} (X : K.In h) (G : h.Ns mainGlobals mg) (hfa : mg "law" = some (.ref fa))
    {f__law_draws : Addr} {od__law_draws an__law_draws : Option Addr} {sl__law_draws : Array (Option Value)} {oc__law_draws kV__law_draws dc__law_draws pm__law_draws cd__law_draws ct__law_draws : Value} {f__law_mix : Addr} {od__law_mix an__law_mix : Option Addr} {sl__law_mix : Array (Option Value)} {oc__law_mix kV__law_mix dc__law_mix pm__law_mix cd__law_mix ct__law_mix : Value} {f__law_order : Addr} {od__law_order an__law_order : Option Addr} {sl__law_order : Array (Option Value)} {oc__law_order kV__law_order dc__law_order pm__law_order cd__law_order ct__law_order : Value} {f__law_seekers : Addr} {od__law_seekers an__law_seekers : Option Addr} {sl__law_seekers : Array (Option Value)} {oc__law_seekers kV__law_seekers dc__law_seekers pm__law_seekers cd__law_seekers ct__law_seekers : Value} {f__law_givings : Addr} {od__law_givings an__law_givings : Option Addr} {sl__law_givings : Array (Option Value)} {oc__law_givings kV__law_givings dc__law_givings pm__law_givings cd__law_givings ct__law_givings : Value} {f_is_wish : Addr} {od_is_wish an_is_wish : Option Addr} {sl_is_wish : Array (Option Value)} {oc_is_wish kV_is_wish dc_is_wish pm_is_wish cd_is_wish ct_is_wish : Value} {f_check_seekers : Addr} {od_check_seekers an_check_seekers : Option Addr} {sl_check_seekers : Array (Option Value)} {oc_check_seekers kV_check_seekers dc_check_seekers pm_check_seekers cd_check_seekers ct_check_seekers : Value} {f_check_order : Addr} {od_check_order an_check_order : Option Addr} {sl_check_order : Array (Option Value)} {oc_check_order kV_check_order dc_check_order pm_check_order cd_check_order ct_check_order : Value} {f_giving_of : Addr} {od_giving_of an_giving_of : Option Addr} {sl_giving_of : Array (Option Value)} {oc_giving_of kV_giving_of dc_giving_of pm_giving_of cd_giving_of ct_giving_of : Value} {f_best_left : Addr} {od_best_left an_best_left : Option Addr} {sl_best_left : Array (Option Value)} {oc_best_left kV_best_left dc_best_left pm_best_left cd_best_left ct_best_left : Value} {f_with_claims : Addr} {od_with_claims an_with_claims : Option Addr} {sl_with_claims : Array (Option Value)} {oc_with_claims kV_with_claims dc_with_claims pm_with_claims cd_with_claims ct_with_claims : Value} {f_check_givings : Addr} {od_check_givings an_check_givings : Option Addr} {sl_check_givings : Array (Option Value)} {oc_check_givings kV_check_givings dc_check_givings pm_check_givings cd_check_givings ct_check_givings : Value} {f_is_pareto_giving : Addr} {od_is_pareto_giving an_is_pareto_giving : Option Addr} {sl_is_pareto_giving : Array (Option Value)} {oc_is_pareto_giving kV_is_pareto_giving dc_is_pareto_giving pm_is_pareto_giving cd_is_pareto_giving ct_is_pareto_giving : Value} {f_turns_of : Addr} {od_turns_of an_turns_of : Option Addr} {sl_turns_of : Array (Option Value)} {oc_turns_of kV_turns_of dc_turns_of pm_turns_of cd_turns_of ct_turns_of : Value} {f_by_turns : Addr} {od_by_turns an_by_turns : Option Addr} {sl_by_turns : Array (Option Value)} {oc_by_turns kV_by_turns dc_by_turns pm_by_turns cd_by_turns ct_by_turns : Value} {f__law_best : Addr} {od__law_best an__law_best : Option Addr} {sl__law_best : Array (Option Value)} {oc__law_best kV__law_best dc__law_best pm__law_best cd__law_best ct__law_best : Value} {f__law_claims : Addr} {od__law_claims an__law_claims : Option Addr} {sl__law_claims : Array (Option Value)} {oc__law_claims kV__law_claims dc__law_claims pm__law_claims cd__law_claims ct__law_claims : Value} {f__law_place : Addr} {od__law_place an__law_place : Option Addr} {sl__law_place : Array (Option Value)} {oc__law_place kV__law_place dc__law_place pm__law_place cd__law_place ct__law_place : Value} {f_law : Addr} {od_law an_law : Option Addr} {sl_law : Array (Option Value)} {oc_law kV_law dc_law pm_law cd_law ct_law : Value}
    (a__law_draws : PySem.W.nsIn K mainGlobals "_law_draws" = some (some (.ref f__law_draws)))
    (l__law_draws : K.lookup f__law_draws = some ⟨oc__law_draws, od__law_draws, .func (PySem.W.fnOf "_law_draws" "_law_draws" (defArgs s__law_draws) (defBody s__law_draws) (defScope s__law_draws) .none kV__law_draws dc__law_draws pm__law_draws an__law_draws cd__law_draws ct__law_draws), sl__law_draws⟩)
    (c__law_draws : PySem.W.codeIn K cd__law_draws "_law_draws" = true) (k__law_draws : PySem.W.keepIn K (.ref f__law_draws) = true)
    (a__law_mix : PySem.W.nsIn K mainGlobals "_law_mix" = some (some (.ref f__law_mix)))
    (l__law_mix : K.lookup f__law_mix = some ⟨oc__law_mix, od__law_mix, .func (PySem.W.fnOf "_law_mix" "_law_mix" (defArgs s__law_mix) (defBody s__law_mix) (defScope s__law_mix) .none kV__law_mix dc__law_mix pm__law_mix an__law_mix cd__law_mix ct__law_mix), sl__law_mix⟩)
    (c__law_mix : PySem.W.codeIn K cd__law_mix "_law_mix" = true) (k__law_mix : PySem.W.keepIn K (.ref f__law_mix) = true)
    (a__law_order : PySem.W.nsIn K mainGlobals "_law_order" = some (some (.ref f__law_order)))
    (l__law_order : K.lookup f__law_order = some ⟨oc__law_order, od__law_order, .func (PySem.W.fnOf "_law_order" "_law_order" (defArgs s__law_order) (defBody s__law_order) (defScope s__law_order) .none kV__law_order dc__law_order pm__law_order an__law_order cd__law_order ct__law_order), sl__law_order⟩)
    (c__law_order : PySem.W.codeIn K cd__law_order "_law_order" = true) (k__law_order : PySem.W.keepIn K (.ref f__law_order) = true)
    (a__law_seekers : PySem.W.nsIn K mainGlobals "_law_seekers" = some (some (.ref f__law_seekers)))
    (l__law_seekers : K.lookup f__law_seekers = some ⟨oc__law_seekers, od__law_seekers, .func (PySem.W.fnOf "_law_seekers" "_law_seekers" (defArgs s__law_seekers) (defBody s__law_seekers) (defScope s__law_seekers) .none kV__law_seekers dc__law_seekers pm__law_seekers an__law_seekers cd__law_seekers ct__law_seekers), sl__law_seekers⟩)
    (c__law_seekers : PySem.W.codeIn K cd__law_seekers "_law_seekers" = true) (k__law_seekers : PySem.W.keepIn K (.ref f__law_seekers) = true)
    (a__law_givings : PySem.W.nsIn K mainGlobals "_law_givings" = some (some (.ref f__law_givings)))
    (l__law_givings : K.lookup f__law_givings = some ⟨oc__law_givings, od__law_givings, .func (PySem.W.fnOf "_law_givings" "_law_givings" (defArgs s__law_givings) (defBody s__law_givings) (defScope s__law_givings) .none kV__law_givings dc__law_givings pm__law_givings an__law_givings cd__law_givings ct__law_givings), sl__law_givings⟩)
    (c__law_givings : PySem.W.codeIn K cd__law_givings "_law_givings" = true) (k__law_givings : PySem.W.keepIn K (.ref f__law_givings) = true)
    (a_is_wish : PySem.W.nsIn K mainGlobals "is_wish" = some (some (.ref f_is_wish)))
    (l_is_wish : K.lookup f_is_wish = some ⟨oc_is_wish, od_is_wish, .func (PySem.W.fnOf "is_wish" "is_wish" (defArgs s_is_wish) (defBody s_is_wish) (defScope s_is_wish) .none kV_is_wish dc_is_wish pm_is_wish an_is_wish cd_is_wish ct_is_wish), sl_is_wish⟩)
    (c_is_wish : PySem.W.codeIn K cd_is_wish "is_wish" = true) (k_is_wish : PySem.W.keepIn K (.ref f_is_wish) = true)
    (a_check_seekers : PySem.W.nsIn K mainGlobals "check_seekers" = some (some (.ref f_check_seekers)))
    (l_check_seekers : K.lookup f_check_seekers = some ⟨oc_check_seekers, od_check_seekers, .func (PySem.W.fnOf "check_seekers" "check_seekers" (defArgs s_check_seekers) (defBody s_check_seekers) (defScope s_check_seekers) .none kV_check_seekers dc_check_seekers pm_check_seekers an_check_seekers cd_check_seekers ct_check_seekers), sl_check_seekers⟩)
    (c_check_seekers : PySem.W.codeIn K cd_check_seekers "check_seekers" = true) (k_check_seekers : PySem.W.keepIn K (.ref f_check_seekers) = true)
    (a_check_order : PySem.W.nsIn K mainGlobals "check_order" = some (some (.ref f_check_order)))
    (l_check_order : K.lookup f_check_order = some ⟨oc_check_order, od_check_order, .func (PySem.W.fnOf "check_order" "check_order" (defArgs s_check_order) (defBody s_check_order) (defScope s_check_order) .none kV_check_order dc_check_order pm_check_order an_check_order cd_check_order ct_check_order), sl_check_order⟩)
    (c_check_order : PySem.W.codeIn K cd_check_order "check_order" = true) (k_check_order : PySem.W.keepIn K (.ref f_check_order) = true)
    (a_giving_of : PySem.W.nsIn K mainGlobals "giving_of" = some (some (.ref f_giving_of)))
    (l_giving_of : K.lookup f_giving_of = some ⟨oc_giving_of, od_giving_of, .func (PySem.W.fnOf "giving_of" "giving_of" (defArgs s_giving_of) (defBody s_giving_of) (defScope s_giving_of) .none kV_giving_of dc_giving_of pm_giving_of an_giving_of cd_giving_of ct_giving_of), sl_giving_of⟩)
    (c_giving_of : PySem.W.codeIn K cd_giving_of "giving_of" = true) (k_giving_of : PySem.W.keepIn K (.ref f_giving_of) = true)
    (a_best_left : PySem.W.nsIn K mainGlobals "best_left" = some (some (.ref f_best_left)))
    (l_best_left : K.lookup f_best_left = some ⟨oc_best_left, od_best_left, .func (PySem.W.fnOf "best_left" "best_left" (defArgs s_best_left) (defBody s_best_left) (defScope s_best_left) .none kV_best_left dc_best_left pm_best_left an_best_left cd_best_left ct_best_left), sl_best_left⟩)
    (c_best_left : PySem.W.codeIn K cd_best_left "best_left" = true) (k_best_left : PySem.W.keepIn K (.ref f_best_left) = true)
    (a_with_claims : PySem.W.nsIn K mainGlobals "with_claims" = some (some (.ref f_with_claims)))
    (l_with_claims : K.lookup f_with_claims = some ⟨oc_with_claims, od_with_claims, .func (PySem.W.fnOf "with_claims" "with_claims" (defArgs s_with_claims) (defBody s_with_claims) (defScope s_with_claims) .none kV_with_claims dc_with_claims pm_with_claims an_with_claims cd_with_claims ct_with_claims), sl_with_claims⟩)
    (c_with_claims : PySem.W.codeIn K cd_with_claims "with_claims" = true) (k_with_claims : PySem.W.keepIn K (.ref f_with_claims) = true)
    (a_check_givings : PySem.W.nsIn K mainGlobals "check_givings" = some (some (.ref f_check_givings)))
    (l_check_givings : K.lookup f_check_givings = some ⟨oc_check_givings, od_check_givings, .func (PySem.W.fnOf "check_givings" "check_givings" (defArgs s_check_givings) (defBody s_check_givings) (defScope s_check_givings) .none kV_check_givings dc_check_givings pm_check_givings an_check_givings cd_check_givings ct_check_givings), sl_check_givings⟩)
    (c_check_givings : PySem.W.codeIn K cd_check_givings "check_givings" = true) (k_check_givings : PySem.W.keepIn K (.ref f_check_givings) = true)
    (a_is_pareto_giving : PySem.W.nsIn K mainGlobals "is_pareto_giving" = some (some (.ref f_is_pareto_giving)))
    (l_is_pareto_giving : K.lookup f_is_pareto_giving = some ⟨oc_is_pareto_giving, od_is_pareto_giving, .func (PySem.W.fnOf "is_pareto_giving" "is_pareto_giving" (defArgs s_is_pareto_giving) (defBody s_is_pareto_giving) (defScope s_is_pareto_giving) .none kV_is_pareto_giving dc_is_pareto_giving pm_is_pareto_giving an_is_pareto_giving cd_is_pareto_giving ct_is_pareto_giving), sl_is_pareto_giving⟩)
    (c_is_pareto_giving : PySem.W.codeIn K cd_is_pareto_giving "is_pareto_giving" = true) (k_is_pareto_giving : PySem.W.keepIn K (.ref f_is_pareto_giving) = true)
    (a_turns_of : PySem.W.nsIn K mainGlobals "turns_of" = some (some (.ref f_turns_of)))
    (l_turns_of : K.lookup f_turns_of = some ⟨oc_turns_of, od_turns_of, .func (PySem.W.fnOf "turns_of" "turns_of" (defArgs s_turns_of) (defBody s_turns_of) (defScope s_turns_of) .none kV_turns_of dc_turns_of pm_turns_of an_turns_of cd_turns_of ct_turns_of), sl_turns_of⟩)
    (c_turns_of : PySem.W.codeIn K cd_turns_of "turns_of" = true) (k_turns_of : PySem.W.keepIn K (.ref f_turns_of) = true)
    (a_by_turns : PySem.W.nsIn K mainGlobals "by_turns" = some (some (.ref f_by_turns)))
    (l_by_turns : K.lookup f_by_turns = some ⟨oc_by_turns, od_by_turns, .func (PySem.W.fnOf "by_turns" "by_turns" (defArgs s_by_turns) (defBody s_by_turns) (defScope s_by_turns) .none kV_by_turns dc_by_turns pm_by_turns an_by_turns cd_by_turns ct_by_turns), sl_by_turns⟩)
    (c_by_turns : PySem.W.codeIn K cd_by_turns "by_turns" = true) (k_by_turns : PySem.W.keepIn K (.ref f_by_turns) = true)
    (a__law_best : PySem.W.nsIn K mainGlobals "_law_best" = some (some (.ref f__law_best)))
    (l__law_best : K.lookup f__law_best = some ⟨oc__law_best, od__law_best, .func (PySem.W.fnOf "_law_best" "_law_best" (defArgs s__law_best) (defBody s__law_best) (defScope s__law_best) .none kV__law_best dc__law_best pm__law_best an__law_best cd__law_best ct__law_best), sl__law_best⟩)
    (c__law_best : PySem.W.codeIn K cd__law_best "_law_best" = true) (k__law_best : PySem.W.keepIn K (.ref f__law_best) = true)
    (a__law_claims : PySem.W.nsIn K mainGlobals "_law_claims" = some (some (.ref f__law_claims)))
    (l__law_claims : K.lookup f__law_claims = some ⟨oc__law_claims, od__law_claims, .func (PySem.W.fnOf "_law_claims" "_law_claims" (defArgs s__law_claims) (defBody s__law_claims) (defScope s__law_claims) .none kV__law_claims dc__law_claims pm__law_claims an__law_claims cd__law_claims ct__law_claims), sl__law_claims⟩)
    (c__law_claims : PySem.W.codeIn K cd__law_claims "_law_claims" = true) (k__law_claims : PySem.W.keepIn K (.ref f__law_claims) = true)
    (a__law_place : PySem.W.nsIn K mainGlobals "_law_place" = some (some (.ref f__law_place)))
    (l__law_place : K.lookup f__law_place = some ⟨oc__law_place, od__law_place, .func (PySem.W.fnOf "_law_place" "_law_place" (defArgs s__law_place) (defBody s__law_place) (defScope s__law_place) .none kV__law_place dc__law_place pm__law_place an__law_place cd__law_place ct__law_place), sl__law_place⟩)
    (c__law_place : PySem.W.codeIn K cd__law_place "_law_place" = true) (k__law_place : PySem.W.keepIn K (.ref f__law_place) = true)
    (a_law : PySem.W.nsIn K mainGlobals "law" = some (some (.ref f_law)))
    (l_law : K.lookup f_law = some ⟨oc_law, od_law, .func (PySem.W.fnOf "law" "law" (defArgs s_law) (defBody s_law) (defScope s_law) .none kV_law dc_law pm_law an_law cd_law ct_law), sl_law⟩)
    (c_law : PySem.W.codeIn K cd_law "law" = true) (k_law : PySem.W.keepIn K (.ref f_law) = true)
    (z_range : PySem.W.nsIn K mainGlobals "range" = some none)
    (z_min : PySem.W.nsIn K mainGlobals "min" = some none)
    (z_len : PySem.W.nsIn K mainGlobals "len" = some none)
    (z_abs : PySem.W.nsIn K mainGlobals "abs" = some none)
    (z_int : PySem.W.nsIn K mainGlobals "int" = some none)
    (z_list : PySem.W.nsIn K mainGlobals "list" = some none)
    (z_sorted : PySem.W.nsIn K mainGlobals "sorted" = some none)
    (z_all : PySem.W.nsIn K mainGlobals "all" = some none)
    (z_enumerate : PySem.W.nsIn K mainGlobals "enumerate" = some none)
    (z_zip : PySem.W.nsIn K mainGlobals "zip" = some none)
    (z_repr : PySem.W.nsIn K mainGlobals "repr" = some none)
    (z_max : PySem.W.nsIn K mainGlobals "max" = some none)
    {t_MOST_SEEKERS : Tok} (g_MOST_SEEKERS : PySem.W.nsIn K mainGlobals "MOST_SEEKERS" = some (some (.int 6 t_MOST_SEEKERS)))
    {t_MOST_THINGS : Tok} (g_MOST_THINGS : PySem.W.nsIn K mainGlobals "MOST_THINGS" = some (some (.int 6 t_MOST_THINGS)))
    : ∃ fd : FuncData, (∀ (s : Shared) (v : Value), BindsTo s fd ⟨[v], []⟩ [("script", v)]) ∧ ∀ base : Heap, K.In base → base.Ns mainGlobals mg → FG l.prog w K mg base 5 fa fd ["script"] (spD K mg [.kx] .sh m_law) := by
  have e := hfa.symm.trans (PySem.W.mg_of X G a_law)
  cases e
  have F__law_draws := fun_mk (st := s__law_draws) l__law_draws c__law_draws k__law_draws
  have F__law_mix := fun_mk (st := s__law_mix) l__law_mix c__law_mix k__law_mix
  have F__law_order := fun_mk (st := s__law_order) l__law_order c__law_order k__law_order
  have F__law_seekers := fun_mk (st := s__law_seekers) l__law_seekers c__law_seekers k__law_seekers
  have F__law_givings := fun_mk (st := s__law_givings) l__law_givings c__law_givings k__law_givings
  have F_is_wish := fun_mk (st := s_is_wish) l_is_wish c_is_wish k_is_wish
  have F_check_seekers := fun_mk (st := s_check_seekers) l_check_seekers c_check_seekers k_check_seekers
  have F_check_order := fun_mk (st := s_check_order) l_check_order c_check_order k_check_order
  have F_giving_of := fun_mk (st := s_giving_of) l_giving_of c_giving_of k_giving_of
  have F_best_left := fun_mk (st := s_best_left) l_best_left c_best_left k_best_left
  have F_with_claims := fun_mk (st := s_with_claims) l_with_claims c_with_claims k_with_claims
  have F_check_givings := fun_mk (st := s_check_givings) l_check_givings c_check_givings k_check_givings
  have F_is_pareto_giving := fun_mk (st := s_is_pareto_giving) l_is_pareto_giving c_is_pareto_giving k_is_pareto_giving
  have F_turns_of := fun_mk (st := s_turns_of) l_turns_of c_turns_of k_turns_of
  have F_by_turns := fun_mk (st := s_by_turns) l_by_turns c_by_turns k_by_turns
  have F__law_best := fun_mk (st := s__law_best) l__law_best c__law_best k__law_best
  have F__law_claims := fun_mk (st := s__law_claims) l__law_claims c__law_claims k__law_claims
  have F__law_place := fun_mk (st := s__law_place) l__law_place c__law_place k__law_place
  have F_law := fun_mk (st := s_law) l_law c_law k_law
  have b__law_draws := F__law_draws.binds (ps := ["script"]) fun _ _ _ _ _ _ us hl => match us, hl with | [_], _ => rfl
  have b__law_mix := F__law_mix.binds (ps := ["draws", "k", "many"]) fun _ _ _ _ _ _ us hl => match us, hl with | [_, _, _], _ => rfl
  have b__law_order := F__law_order.binds (ps := ["draws", "first", "many"]) fun _ _ _ _ _ _ us hl => match us, hl with | [_, _, _], _ => rfl
  have b__law_seekers := F__law_seekers.binds (ps := ["draws", "first", "most", "wide"]) fun _ _ _ _ _ _ us hl => match us, hl with | [_, _, _, _], _ => rfl
  have b__law_givings := F__law_givings.binds (ps := ["seekers"]) fun _ _ _ _ _ _ us hl => match us, hl with | [_], _ => rfl
  have b_is_wish := F_is_wish.binds (ps := ["told", "many"]) fun _ _ _ _ _ _ us hl => match us, hl with | [_, _], _ => rfl
  have b_check_seekers := F_check_seekers.binds (ps := ["seekers"]) fun _ _ _ _ _ _ us hl => match us, hl with | [_], _ => rfl
  have b_check_order := F_check_order.binds (ps := ["seekers", "order"]) fun _ _ _ _ _ _ us hl => match us, hl with | [_, _], _ => rfl
  have b_giving_of := F_giving_of.binds (ps := ["seekers", "told"]) fun _ _ _ _ _ _ us hl => match us, hl with | [_, _], _ => rfl
  have b_best_left := F_best_left.binds (ps := ["wish", "told"]) fun _ _ _ _ _ _ us hl => match us, hl with | [_, _], _ => rfl
  have b_with_claims := F_with_claims.binds (ps := ["seekers", "order", "claims"]) fun _ _ _ _ _ _ us hl => match us, hl with | [_, _, _], _ => rfl
  have b_check_givings := F_check_givings.binds (ps := ["seekers", "givings"]) fun _ _ _ _ _ _ us hl => match us, hl with | [_, _], _ => rfl
  have b_is_pareto_giving := F_is_pareto_giving.binds (ps := ["seekers", "told"]) fun _ _ _ _ _ _ us hl => match us, hl with | [_, _], _ => rfl
  have b_turns_of := F_turns_of.binds (ps := ["seekers", "order"]) fun _ _ _ _ _ _ us hl => match us, hl with | [_, _], _ => rfl
  have b_by_turns := F_by_turns.binds (ps := ["seekers", "order"]) fun _ _ _ _ _ _ us hl => match us, hl with | [_, _], _ => rfl
  have b__law_best := F__law_best.binds (ps := ["seekers", "told", "one"]) fun _ _ _ _ _ _ us hl => match us, hl with | [_, _, _], _ => rfl
  have b__law_claims := F__law_claims.binds (ps := ["seekers", "order", "claims"]) fun _ _ _ _ _ _ us hl => match us, hl with | [_, _, _], _ => rfl
  have b__law_place := F__law_place.binds (ps := ["wish", "one"]) fun _ _ _ _ _ _ us hl => match us, hl with | [_, _], _ => rfl
  have b_law := F_law.binds (ps := ["script"]) fun _ _ _ _ _ _ us hl => match us, hl with | [_], _ => rfl
  refine ⟨PySem.W.fnOf "law" "law" (defArgs s_law) (defBody s_law) (defScope s_law) .none kV_law dc_law pm_law an_law cd_law ct_law, fun s v => .of_eq rfl, fun base _ _ => ?_⟩
  have G__law_draws := ok__law_draws (P := l.prog) (w := w) (K := K) (mg := mg) (base := base) F__law_draws (PySem.W.mg_none_of X G z_range) (PySem.W.mg_none_of X G z_min) (PySem.W.mg_none_of X G z_len) (PySem.W.mg_none_of X G z_abs) (PySem.W.mg_none_of X G z_int)
  have G__law_mix := ok__law_mix (P := l.prog) (w := w) (K := K) (mg := mg) (base := base) F__law_mix (PySem.W.mg_none_of X G z_len) (PySem.W.mg_none_of X G z_int)
  have G__law_order := ok__law_order (P := l.prog) (w := w) (K := K) (mg := mg) (base := base) F__law_order G__law_mix (PySem.W.mg_of X G a__law_mix) F__law_mix.kp b__law_mix (PySem.W.mg_none_of X G z_list) (PySem.W.mg_none_of X G z_range) (PySem.W.mg_none_of X G z_len)
  have G__law_seekers := ok__law_seekers (P := l.prog) (w := w) (K := K) (mg := mg) (base := base) F__law_seekers G__law_mix (PySem.W.mg_of X G a__law_mix) F__law_mix.kp b__law_mix G__law_order (PySem.W.mg_of X G a__law_order) F__law_order.kp b__law_order (PySem.W.mg_none_of X G z_range)
  have G__law_givings := ok__law_givings (P := l.prog) (w := w) (K := K) (mg := mg) (base := base) F__law_givings (PySem.W.mg_none_of X G z_sorted)
  have G_is_wish := ok_is_wish (P := l.prog) (w := w) (K := K) (mg := mg) (base := base) F_is_wish (PySem.W.mg_none_of X G z_all) (PySem.W.mg_none_of X G z_enumerate)
  have G_check_seekers := ok_check_seekers (P := l.prog) (w := w) (K := K) (mg := mg) (base := base) F_check_seekers G_is_wish (PySem.W.mg_of X G a_is_wish) F_is_wish.kp b_is_wish (PySem.W.mg_none_of X G z_len) (PySem.W.mg_none_of X G z_enumerate) (PySem.W.mg_of X G g_MOST_SEEKERS) (PySem.W.mg_of X G g_MOST_THINGS)
  have G_check_order := ok_check_order (P := l.prog) (w := w) (K := K) (mg := mg) (base := base) F_check_order G_check_seekers (PySem.W.mg_of X G a_check_seekers) F_check_seekers.kp b_check_seekers (PySem.W.mg_none_of X G z_sorted) (PySem.W.mg_none_of X G z_list) (PySem.W.mg_none_of X G z_range) (PySem.W.mg_none_of X G z_len)
  have G_giving_of := ok_giving_of (P := l.prog) (w := w) (K := K) (mg := mg) (base := base) F_giving_of G_is_wish (PySem.W.mg_of X G a_is_wish) F_is_wish.kp b_is_wish (PySem.W.mg_none_of X G z_len) (PySem.W.mg_none_of X G z_all) (PySem.W.mg_none_of X G z_zip)
  have G_best_left := ok_best_left (P := l.prog) (w := w) (K := K) (mg := mg) (base := base) F_best_left (PySem.W.mg_none_of X G z_len)
  have G_with_claims := ok_with_claims (P := l.prog) (w := w) (K := K) (mg := mg) (base := base) F_with_claims G_check_order (PySem.W.mg_of X G a_check_order) F_check_order.kp b_check_order G_giving_of (PySem.W.mg_of X G a_giving_of) F_giving_of.kp b_giving_of G_best_left (PySem.W.mg_of X G a_best_left) F_best_left.kp b_best_left (PySem.W.mg_none_of X G z_len) (PySem.W.mg_none_of X G z_list) (PySem.W.mg_none_of X G z_zip)
  have G_check_givings := ok_check_givings (P := l.prog) (w := w) (K := K) (mg := mg) (base := base) F_check_givings G_check_seekers (PySem.W.mg_of X G a_check_seekers) F_check_seekers.kp b_check_seekers G_giving_of (PySem.W.mg_of X G a_giving_of) F_giving_of.kp b_giving_of (PySem.W.mg_none_of X G z_enumerate)
  have G_is_pareto_giving := ok_is_pareto_giving (P := l.prog) (w := w) (K := K) (mg := mg) (base := base) F_is_pareto_giving G_check_givings (PySem.W.mg_of X G a_check_givings) F_check_givings.kp b_check_givings G_best_left (PySem.W.mg_of X G a_best_left) F_best_left.kp b_best_left (PySem.W.mg_none_of X G z_list) (PySem.W.mg_none_of X G z_range) (PySem.W.mg_none_of X G z_len)
  have G_turns_of := ok_turns_of (P := l.prog) (w := w) (K := K) (mg := mg) (base := base) F_turns_of G_best_left (PySem.W.mg_of X G a_best_left) F_best_left.kp b_best_left (PySem.W.mg_none_of X G z_len)
  have G_by_turns := ok_by_turns (P := l.prog) (w := w) (K := K) (mg := mg) (base := base) F_by_turns G_check_order (PySem.W.mg_of X G a_check_order) F_check_order.kp b_check_order G_turns_of (PySem.W.mg_of X G a_turns_of) F_turns_of.kp b_turns_of
  have G__law_best := ok__law_best (P := l.prog) (w := w) (K := K) (mg := mg) (base := base) F__law_best
  have G__law_claims := ok__law_claims (P := l.prog) (w := w) (K := K) (mg := mg) (base := base) F__law_claims G__law_best (PySem.W.mg_of X G a__law_best) F__law_best.kp b__law_best (PySem.W.mg_none_of X G z_len) (PySem.W.mg_none_of X G z_range)
  have G__law_place := ok__law_place (P := l.prog) (w := w) (K := K) (mg := mg) (base := base) F__law_place (PySem.W.mg_none_of X G z_len)
  exact ok_law F_law G__law_draws (PySem.W.mg_of X G a__law_draws) F__law_draws.kp b__law_draws G__law_seekers (PySem.W.mg_of X G a__law_seekers) F__law_seekers.kp b__law_seekers G__law_givings (PySem.W.mg_of X G a__law_givings) F__law_givings.kp b__law_givings G__law_order (PySem.W.mg_of X G a__law_order) F__law_order.kp b__law_order G__law_mix (PySem.W.mg_of X G a__law_mix) F__law_mix.kp b__law_mix G_with_claims (PySem.W.mg_of X G a_with_claims) F_with_claims.kp b_with_claims G__law_claims (PySem.W.mg_of X G a__law_claims) F__law_claims.kp b__law_claims G__law_place (PySem.W.mg_of X G a__law_place) F__law_place.kp b__law_place G_is_pareto_giving (PySem.W.mg_of X G a_is_pareto_giving) F_is_pareto_giving.kp b_is_pareto_giving G_by_turns (PySem.W.mg_of X G a_by_turns) F_by_turns.kp b_by_turns (PySem.W.mg_none_of X G z_len) (PySem.W.mg_none_of X G z_repr) (PySem.W.mg_none_of X G z_range) (PySem.W.mg_none_of X G z_min) (PySem.W.mg_none_of X G z_max)
end K42

namespace K42
open PySem PySem.Spec L2 DL
open PyProof.Rows hiding St
/-! ### the law's draws -/
def eZ (xs : List Int) : D := .list (xs.map .int)
theorem fmod_lt (a : Int) {n : Nat} (h : 0 < n) : ∃ r : Nat, r < n ∧ a.fmod (n : Int) = (r : Int) := by
  rw [Int.fmod_eq_emod_of_nonneg _ (by omega)]
  have h1 := Int.emod_nonneg a (b := (n : Int)) (by omega)
  have h2 := Int.emod_lt_of_pos a (b := (n : Int)) (by omega)
  exact ⟨(a % (n : Int)).toNat, by omega, by omega⟩
theorem sp_mix (ds : List Int) (hz : ds.length ≤ sizeLine) (k many : Nat) (hm : 0 < many) : ∃ r : Nat, r < many ∧ m__law_mix [eZ ds, .int (k : Int), .int (many : Int)] = .ok (.int (r : Int)) := by
  have l1 : lenD (eZ ds) = .ok (.int (ds.length : Int)) := by simp [eZ]
  have fin : ∀ v : Int, ∃ r : Nat, r < many ∧ v.fmod (many : Int) = (r : Int) := fun v => fmod_lt v hm
  have m0 : (many : Int) ≠ 0 := by omega
  have body : ∀ (v : Int) (R : Res (Fl Unit Empty)), (∀ x, (k : Int) < ds.length → v.fmod (many : Int) = x → R = .ok (.rt (.int x))) → (∀ x, ¬ (k : Int) < ds.length → ((v * 7919 + (k : Int) * 104729).fdiv 3).fmod (many : Int) = x → R = .ok (.rt (.int x))) →
      ∃ r : Nat, r < many ∧ fnR .sh R = .ok (.int (r : Int)) := fun v R h1 h2 => by
    by_cases hk : (k : Int) < ds.length
    · obtain ⟨r, g1, g2⟩ := fin v
      refine ⟨r, g1, ?_⟩
      rw [h1 _ hk g2]
      rfl
    · obtain ⟨r, g1, g2⟩ := fin ((v * 7919 + (k : Int) * 104729).fdiv 3)
      refine ⟨r, g1, ?_⟩
      rw [h2 _ hk g2]
      rfl
  rw [m__law_mix, rd3_eq, b__law_mix]
  by_cases h0 : 0 < ds.length
  · have c1 : decide ((0 : Int) < (ds.length : Int)) = true := by rw [decide_eq_true_eq]; omega
    obtain ⟨i, hi, e⟩ := fmod_lt (k : Int) h0
    have c2 : ixD (eZ ds) (.int (i : Int)) = .ok (.int ds[i]) := ixD_map (List.getElem?_eq_getElem hi)
    refine body ds[i] _ (fun x hk hx => ?_) (fun x hk hx => ?_)
    · simp only [Res.bind_ok, l1, gtI_int, c1, if_true, intD_int, modI_int (b := (ds.length : Int)) (by omega), e, c2, Fl.seq_nx, ltI_int, decide_eq_true hk, modI_int m0, hx, Fl.seq_rt]
    · simp only [Res.bind_ok, l1, gtI_int, c1, if_true, intD_int, modI_int (b := (ds.length : Int)) (by omega), e, c2, Fl.seq_nx, ltI_int, decide_eq_false hk, Bool.false_eq_true, if_false, mulI_r (b := 7919) (by decide), mulI_r (b := 104729) (by decide), addI_int, fdivI_int (b := 3) (by decide) (by decide), modI_int m0, hx]
  · have c1 : decide ((0 : Int) < (ds.length : Int)) = false := by rw [decide_eq_false_iff_not]; omega
    refine body 0 _ (fun x hk hx => ?_) (fun x hk hx => ?_)
    · simp only [Res.bind_ok, l1, gtI_int, c1, Bool.false_eq_true, if_false, if_true, intD_int, Fl.seq_nx, ltI_int, decide_eq_true hk, modI_int m0, hx, Fl.seq_rt]
    · simp only [Res.bind_ok, l1, gtI_int, c1, Bool.false_eq_true, if_false, intD_int, Fl.seq_nx, ltI_int, decide_eq_false hk, mulI_r (b := 7919) (by decide), mulI_r (b := 104729) (by decide), addI_int, fdivI_int (b := 3) (by decide) (by decide), modI_int m0, hx]
/-- the draws are whole numbers, so many at most -/
theorem sp_draws (ns : List Int) (h : ns.length ≤ 63) : ∃ ds : List Int, ds.length ≤ 10000 ∧ m__law_draws [.list (ns.map .int)] = .ok (eZ ds) := by
  have l1 : (if (ns.length : Int) < 63 then (ns.length : Int) else 63) = (ns.length : Int) := by split <;> omega
  have ap : ∀ (ds : List Int) (v : Int), ds.length < 10000 → appD (eZ ds) (.int v) = .ok (eZ (ds ++ [v])) := fun ds v hd => by
    unfold eZ
    rw [appD_ok _ (by rw [List.length_map, sz]; omega), List.map_append]
    rfl
  have key : ∀ f : D → D → Res (Fl D D), (∀ (i : Nat) (ds : List Int), i < ns.length → ds.length ≤ 100 * i → ∃ ds' : List Int, f (.int (i : Int)) (eZ ds) = .ok (.nx (eZ ds')) ∧ ds'.length ≤ 100 * (i + 1)) →
      ∃ ds : List Int, (forD f ((List.range ns.length).map fun i => .int (i : Nat)) (eZ []) : Res (Fl D Empty)) = .ok (.nx (eZ ds)) ∧ ds.length ≤ 10000 := fun f H => by
    obtain ⟨s', e1, ds, e2, h2⟩ := forD_inv (L := Empty) (f := f) (fun i s => ∃ ds : List Int, s = eZ ds ∧ ds.length ≤ 100 * i) ((List.range ns.length).map fun i => PyData.int (i : Nat)) 0 (eZ []) ⟨[], rfl, by simp⟩ (fun i d s hi ⟨ds, hs, hl⟩ => by
      rw [Nat.zero_add] at hl ⊢
      have hin : i < ns.length := by have := (List.getElem?_eq_some_iff.mp hi).1; simpa using this
      rw [List.getElem?_map, List.getElem?_range hin] at hi
      cases hi
      subst hs
      obtain ⟨ds', g1, g2⟩ := H i ds hin hl
      exact ⟨_, g1, ds', rfl, g2⟩)
    refine ⟨ds, by rw [e1, e2], ?_⟩
    simp only [List.length_map, List.length_range, Nat.zero_add] at h2
    omega
  have r1 : rngL (.int 0) (.int (ns.length : Int)) = .ok ((List.range ns.length).map fun i => .int (i : Nat)) := rngL_ok (by omega)
  have r60 : rngL (.int 0) (.int 60) = .ok ((List.range 60).map fun i => .int (i : Nat)) := rngL_ok (n := 60) (by decide)
  have p1 : powI (.int 10) (.int 18) = .ok (.int (10 ^ 18)) := by
    unfold powI
    simp only
    rw [if_pos (by decide)]
    rfl
  rw [m__law_draws, rd1_eq, b__law_draws]
  simp only [Res.bind_ok, mkL0, lenD_list, List.length_map, min2D_int, l1, r1]
  have l0 : PyData.list [] = eZ [] := rfl
  rw [l0]
  have wrap : ∀ f : D → D → Res (Fl D D), (∀ (i : Nat) (ds : List Int), i < ns.length → ds.length ≤ 100 * i → ∃ ds' : List Int, f (.int (i : Int)) (eZ ds) = .ok (.nx (eZ ds')) ∧ ds'.length ≤ 100 * (i + 1)) →
      ∃ ds : List Int, ds.length ≤ 10000 ∧ fnR .ow (Fl.seq (forD f ((List.range ns.length).map fun i => .int (i : Nat)) (eZ [])) fun s => (.ok (.rt s) : Res (Fl Unit Empty))) = .ok (eZ ds) := fun f H => by
    obtain ⟨ds, e1, e2⟩ := key f H
    exact ⟨ds, e2, by rw [e1]; rfl⟩
  refine wrap _ fun i ds hi hl => ?_
  have ei : (ns.map PyData.int)[i]? = some (.int ns[i]) := by rw [List.getElem?_map, List.getElem?_eq_getElem hi]; rfl
  simp only [Res.bind_ok, ixD_nat ei, absD_int, p1, geI_int]
  generalize (if ns[i] < 0 then -ns[i] else ns[i]) = v
  by_cases hv : (10 : Int) ^ 18 ≤ v
  · rw [decide_eq_true hv]
    simp only [if_true, r60, Res.bind_ok]
    have inner : ∀ f : D → D × D → Res (Fl (D × D) (D × D)), (∀ (ds : List Int) (r : Int), ds.length < 10000 → ∃ (ds' : List Int) (r' : Int), (∀ k : Int, f (.int k) (eZ ds, .int r) = .ok (.nx (eZ ds', .int r'))) ∧ ds'.length ≤ ds.length + 1) →
        ∃ ds' : List Int, (Fl.seq (Fl.seq (forD f ((List.range 60).map fun i => .int (i : Nat)) (eZ ds, .int v)) (fun s => (.ok (.nx s.1) : Res (Fl D D)))) fun s => .ok (.nx s)) = (.ok (.nx (eZ ds')) : Res (Fl D D)) ∧ ds'.length ≤ 100 * (i + 1) := fun f H => by
      obtain ⟨s', e1, ds', r', e2, h2⟩ := forD_inv (L := D) (f := f) (fun j s => ∃ (ds' : List Int) (r : Int), s = (eZ ds', .int r) ∧ (ds'.length ≤ ds.length + j)) ((List.range 60).map fun i => PyData.int (i : Nat)) 0 (eZ ds, .int v) ⟨ds, v, rfl, by omega⟩ (fun j d s hj ⟨ds1, r1, hs, hl1⟩ => by
        rw [Nat.zero_add] at hl1 ⊢
        have hin : j < 60 := by have := (List.getElem?_eq_some_iff.mp hj).1; simpa using this
        rw [List.getElem?_map, List.getElem?_range hin] at hj
        cases hj
        subst hs
        obtain ⟨ds2, r2, g1, g2⟩ := H ds1 r1 (by omega)
        exact ⟨_, g1 _, ds2, r2, rfl, by omega⟩)
      refine ⟨ds', by rw [e1, e2]; rfl, ?_⟩
      simp only [List.length_map, List.length_range, Nat.zero_add] at h2
      omega
    refine inner _ fun ds1 r1 h1 => ?_
    by_cases hr : (0 : Int) < r1
    · refine ⟨ds1 ++ [r1.fmod 65536], r1.fdiv 65536, fun k => ?_, by simp⟩
      simp only [Res.bind_ok, gtI_int, decide_eq_true hr, if_true, intD_int, modI_int (b := 65536) (by decide), ap ds1 _ h1, fdivI_int (b := 65536) (by decide) (by decide), Fl.seq_nx]
    · refine ⟨ds1, r1, fun k => ?_, by omega⟩
      simp only [Res.bind_ok, gtI_int, decide_eq_false hr, Bool.false_eq_true, if_false, Fl.seq_nx]
  · rw [decide_eq_false hv]
    simp only [Bool.false_eq_true, if_false]
    simp only [Res.bind_ok, mulI_r (b := 48271) (by decide), mulI_r (b := 69621) (by decide), mulI_r (b := 16807) (by decide), mulI_l (a := 11) (by decide), addI_int, intD_int, modI_int (b := 2147483647) (by decide), modI_int (b := 2147483629) (by decide), modI_int (b := 65536) (by decide), modI_int (b := 32768) (by decide), fdivI_int (b := 65536) (by decide) (by decide)]
    rw [ap ds _ (by omega), Res.bind_ok, ap _ _ (by rw [List.length_append]; simp; omega), Res.bind_ok, Fl.seq_nx]
    exact ⟨_, rfl, by simp; omega⟩
def mixI (ds : List Int) (k many : Int) : Int := match m__law_mix [eZ ds, .int k, .int many] with
  | .ok (.int r) => r
  | _ => 0
theorem mix_ok {ds : List Int} (hz : ds.length ≤ 10000) {k many : Int} (hk : 0 ≤ k) (hm : 0 < many) : m__law_mix [eZ ds, .int k, .int many] = .ok (.int (mixI ds k many)) ∧ 0 ≤ mixI ds k many ∧ mixI ds k many < many := by
  obtain ⟨r, h1, h2⟩ := sp_mix ds (by rw [sz]; omega) k.toNat many.toNat (by omega)
  rw [show ((k.toNat : Nat) : Int) = k by omega, show ((many.toNat : Nat) : Int) = many by omega] at h2
  have e : mixI ds k many = (r : Int) := by unfold mixI; rw [h2]
  rw [e]
  exact ⟨h2, by omega, by omega⟩
theorem mix_eq {ds : List Int} (hz : ds.length ≤ 10000) {k many : Int} (hk : 0 ≤ k) (hm : 0 < many) : m__law_mix [eZ ds, .int k, .int many] = .ok (.int (mixI ds k many)) := (mix_ok hz hk hm).1
end K42

namespace K42
open PySem PySem.Spec L2 DL
open PyProof.Rows hiding St
/-! ### seekers and things -/
structure OkS (n t : Nat) (L : Nat → List Nat) : Prop where
  n1 : 1 ≤ n
  n2 : n ≤ 5
  t1 : 1 ≤ t
  t2 : t ≤ 4
  nd : ∀ k, k < n → (L k).Nodup
  lt : ∀ k, k < n → ∀ x ∈ L k, x < t
def eLl (n : Nat) (L : Nat → List Nat) : D := .list ((List.range n).map fun k => eLs eNat (L k))
def eS (n t : Nat) (L : Nat → List Nat) : D := .tuple [eLl n L, .int (t : Nat)]
def tl (n : Nat) (F : Nat → Option Nat) : List (Option Nat) := (List.range n).map F
def eF (n : Nat) (F : Nat → Option Nat) : D := eLs eOp (tl n F)
/-- the best thing that is left -/
def bl (wish : List Nat) (taken : List (Option Nat)) : Option Nat := (wish.filter fun x => !decide (some x ∈ taken)).head?
section
variable {n t : Nat} {L : Nat → List Nat} {F : Nat → Option Nat}
theorem OkS.len (o : OkS n t L) {k : Nat} (hk : k < n) : (L k).length ≤ 4 := Nat.le_trans (nd_len (o.nd k hk) (o.lt k hk)) o.t2
theorem seq_ls {α : Type} {f : α → D} {xs : List α} (h : xs.length ≤ 1000000) : seqL (eLs f xs) = .ok (xs.map f) := seqL_ok (by rw [sz, List.length_map]; omega)
theorem len_ls {α : Type} {f : α → D} {xs : List α} : lenD (eLs f xs) = .ok (.int (xs.length : Nat)) := by simp [eLs]
theorem ix_eLl {k : Nat} (h : k < n) : ixD (eLl n L) (.int (k : Int)) = .ok (eLs eNat (L k)) := ixD_tab (f := fun k => eLs eNat (L k)) h
theorem ix_eF {k : Nat} (h : k < n) : ixD (eF n F) (.int (k : Int)) = .ok (eOp (F k)) := by
  unfold eF eLs tl
  rw [List.map_map]
  exact ixD_tab (f := fun k => eOp (F k)) h
theorem head_op (xs : List Nat) : (if (0 : Int) < (xs.length : Int) then ixD (eLs eNat xs) (.int 0) else .ok .none) = .ok (eOp xs.head?) := by
  cases xs with
  | nil => rfl
  | cons x r =>
    rw [if_pos (by simp)]
    exact ixD_0
theorem sp_best (wish : List Nat) (hw : wish.length ≤ 1000) (ts : List (Option Nat)) : m_best_left [eLs eNat wish, eLs eOp ts] = .ok (eOp (bl wish ts)) := by
  rw [m_best_left, rd2_eq, b_best_left]
  simp only [Res.bind_ok, seq_ls (show wish.length ≤ 1000000 by omega)]
  rw [lcR_fm (p := fun x => !decide (some x ∈ ts)) (h := eNat) fun x hx => by
    have e : DL.ninL (eNat x) (eLs eOp ts) = .ok (!decide (some x ∈ ts)) := encOp.ninL (by decide) (some x) ts
    simp only [Res.bind_ok, e, lcF_ok]]
  have e2 : PyData.list ((List.filter (fun x => !decide (some x ∈ ts)) wish).map eNat) = eLs eNat (List.filter (fun x => !decide (some x ∈ ts)) wish) := rfl
  simp only [Res.bind_ok, e2, len_ls, gtI_int]
  have h := head_op (List.filter (fun x => !decide (some x ∈ ts)) wish)
  simp only [decide_eq_true_eq]
  rw [h]
  rfl
theorem sp_wish {xs : List Nat} (nd : xs.Nodup) (lt : ∀ x ∈ xs, x < t) (ht : t ≤ 1000) : m_is_wish [eLs eNat xs, .int (t : Int)] = .ok (.bool true) := by
  have hl := nd_len nd lt
  rw [m_is_wish, rd2_eq, b_is_wish]
  simp only [Res.bind_ok, seq_ls (show xs.length ≤ 1000000 by omega), enumD_map]
  rw [lcR_m (h := fun _ => .bool true)]
  · simp only [Res.bind_ok, allD_map]
    rw [show (xs.zipIdx.all fun _ => true) = true by simp]
    rfl
  rintro ⟨a, i⟩ hp
  have hm := List.mem_zipIdx hp
  have hi : i < xs.length := by omega
  have ha : a = xs[i] := by simpa using hm.2.2
  have c1 : decide ((0 : Int) ≤ (a : Int)) = true := by simp
  have c2 : decide ((a : Int) < (t : Int)) = true := by
    rw [decide_eq_true_eq]
    have := lt a (by rw [ha]; exact List.getElem_mem _)
    omega
  have c3 : a ∉ xs.take i := by rw [ha]; exact not_mem_take nd hi
  have c4 : slcL true .sh (eLs eNat xs) none (some (i : Int)) = .ok (eLs eNat (xs.take i)) := by
    unfold eLs
    rw [slc_take, List.map_take]
  have c5 : DL.ninL (eNat a) (eLs eNat (xs.take i)) = .ok true := by
    have := encNat.ninL (by decide) a (xs.take i)
    rw [decide_eq_false c3] at this
    exact this
  simp only [unT2, Res.bind_ok, eNat, leI_int, ltI_int, c1, c2, if_true, bD_eq, toB_bool, toI_int, c4] at *
  simp only [c5, Res.bind_ok, bD_eq, lcF_ok, if_true]
end
end K42

namespace K42
open PySem PySem.Spec L2 DL
open PyProof.Rows hiding St
/-- who gets what: things that they wish, no thing twice -/
structure Giv (n : Nat) (L : Nat → List Nat) (F : Nat → Option Nat) : Prop where
  inL : ∀ k, k < n → ∀ x, F k = some x → x ∈ L k
  inj : ∀ j k, j < n → k < n → ∀ x, F j = some x → F k = some x → j = k
def upd1 (F : Nat → Option Nat) (k : Nat) (x : Option Nat) : Nat → Option Nat := fun j => if j = k then x else F j
section
variable {n t : Nat} {L : Nat → List Nat} {F : Nat → Option Nat}
theorem len_eLl : lenD (eLl n L) = .ok (.int (n : Int)) := by simp [eLl]
theorem ix0_eS : ixD (eS n t L) (.int 0) = .ok (eLl n L) := ixD_t0
theorem len_eF : lenD (eF n F) = .ok (.int (n : Int)) := by rw [eF, len_ls]; simp [tl]
theorem seq_eLl (o : OkS n t L) : seqL (eLl n L) = .ok ((List.range n).map fun k => eLs eNat (L k)) := seqL_ok (by rw [sz, List.length_map, List.length_range]; have := o.n2; omega)
theorem seq_eF (o : OkS n t L) : seqL (eF n F) = .ok ((List.range n).map fun k => eOp (F k)) := by
  rw [eF, seq_ls (by simp [tl]; have := o.n2; omega)]
  simp [tl, List.map_map, Function.comp_def]
theorem sp_seekers (o : OkS n t L) : m_check_seekers [eS n t L] = .ok .none := by
  have a1 : decide ((1 : Int) ≤ (n : Int)) = true := by rw [decide_eq_true_eq]; have := o.n1; omega
  have a2 : decide ((n : Int) ≤ 6) = true := by rw [decide_eq_true_eq]; have := o.n2; omega
  have a3 : decide ((1 : Int) ≤ (t : Int)) = true := by rw [decide_eq_true_eq]; have := o.t1; omega
  have a4 : decide ((t : Int) ≤ 6) = true := by rw [decide_eq_true_eq]; have := o.t2; omega
  rw [m_check_seekers, rd1_eq, b_check_seekers]
  simp only [eS, Res.bind_ok, unT2, len_eLl, leI_int, a1, a2, a3, a4, if_true, Bool.not_true, Bool.false_eq_true, if_false, seq_eLl o, enumD_tab]
  rw [forD_unit]
  · rfl
  intro d hd
  obtain ⟨k, hk, rfl⟩ := List.mem_map.mp hd
  have hk' := List.mem_range.mp hk
  simp only [unT2, Res.bind_ok, sp_wish (o.nd k hk') (o.lt k hk') (by have := o.t2; omega), toB_bool, Bool.not_true, Bool.false_eq_true, if_false]
theorem filterMap_nd (o : OkS n t L) (gv : Giv n L F) : ((List.range n).filterMap F).Nodup ∧ ∀ x ∈ (List.range n).filterMap F, x < t := by
  refine ⟨?_, fun x hx => ?_⟩
  · rw [List.Nodup, List.pairwise_filterMap]
    refine List.Pairwise.imp_of_mem ?_ List.nodup_range
    intro a b ha hb ne x hx y hy e
    subst e
    exact ne (gv.inj a b (List.mem_range.mp ha) (List.mem_range.mp hb) x hx hy)
  · obtain ⟨k, hk, e⟩ := List.mem_filterMap.mp hx
    exact o.lt k (List.mem_range.mp hk) x (gv.inL k (List.mem_range.mp hk) x e)
theorem somes (F : Nat → Option Nat) : ∀ l : List Nat, (l.filter fun k => !isN (eOp (F k))).map (fun k => eOp (F k)) = (l.filterMap F).map eNat
  | [] => rfl
  | k :: r => by
    rw [List.filter_cons, List.filterMap_cons]
    cases q : F k with
    | none =>
      rw [if_neg (by simp [eOp, isN])]
      exact somes F r
    | some x =>
      rw [if_pos (by simp [eOp, isN]), List.map_cons, List.map_cons, somes F r, q]
      rfl
theorem sp_giving (o : OkS n t L) (gv : Giv n L F) : m_giving_of [eS n t L, eF n F] = .ok (.bool true) := by
  obtain ⟨f1, f2⟩ := filterMap_nd o gv
  rw [m_giving_of, rd2_eq, b_giving_of]
  simp only [eS, Res.bind_ok, unT2, len_eF, len_eLl, neD_int, decide_true, Bool.not_true, Bool.false_eq_true, if_false, seq_eF o]
  rw [lcR_fm (p := fun k => !isN (eOp (F k))) (h := fun k => eOp (F k)) fun k hk => by simp only [Res.bind_ok, isntD_none, lcF_ok], somes]
  have e1 : PyData.list (((List.range n).filterMap F).map eNat) = eLs eNat ((List.range n).filterMap F) := rfl
  simp only [Res.bind_ok, capK_ow, e1, sp_wish f1 f2 (by have := o.t2; omega), toB_bool, Bool.not_true, Bool.false_eq_true, if_false, seq_eF o, seq_eLl o]
  have e2 : zipD ((List.range n).map fun k => eOp (F k)) ((List.range n).map fun k => eLs eNat (L k)) = (List.range n).map fun k => .tuple [eOp (F k), eLs eNat (L k)] := by
    unfold zipD
    rw [List.zip_map', List.map_map]
    rfl
  rw [e2, lcR_m (h := fun _ => .bool true)]
  · simp only [Res.bind_ok, allD_map]
    rw [show ((List.range n).all fun _ => true) = true by simp]
    rfl
  intro k hk
  have hk' := List.mem_range.mp hk
  simp only [unT2, Res.bind_ok, isD_none, bD_eq, toB_bool]
  cases q : F k with
  | none => rfl
  | some x =>
    have e3 : DL.inL (eOp (some x)) (eLs eNat (L k)) = .ok true := by
      have := encNat.inL (by decide) x (L k)
      rw [decide_eq_true (gv.inL k hk' x q)] at this
      exact this
    simp only [eOp, isN, Bool.false_eq_true, if_false] at *
    simp only [e3, Res.bind_ok, bD_eq, lcF_ok, if_true]
theorem sp_order (o : OkS n t L) {ord : List Nat} (hp : ord.Perm (List.range n)) : m_check_order [eS n t L, eLs eNat ord] = .ok .none := by
  have hl : ord.length = n := by rw [hp.length_eq, List.length_range]
  rw [m_check_order, rd2_eq, b_check_order]
  have e1 : sortD .sh (eLs eNat ord) = .ok (eLs eNat (List.range n)) := by
    unfold eLs
    rw [sortD_nat (by have := o.n2; omega), sorted_perm_range hp]
  have e2 : neD (eLs eNat (List.range n)) (.list ((List.range n).map fun i => .int (i : Nat))) = .ok false := by
    have := encNat.ls.neD (by decide) (List.range n) (List.range n)
    rw [decide_eq_true rfl] at this
    exact this
  simp only [Res.bind_ok, sp_seekers o, e1, ix0_eS, len_eLl, rngL_ok (show n ≤ 1000000 by have := o.n2; omega), e2, Bool.false_eq_true, if_false]
  rfl
theorem set_eF {k : Nat} {x : Option Nat} (h : k < n) : setD (eF n F) (.int (k : Int)) (eOp x) = .ok (eF n (upd1 F k x)) := by
  unfold eF eLs tl
  rw [setD_nat (by simpa using h)]
  congr 2
  apply List.ext_getElem?
  intro i
  by_cases hi : i < n
  · by_cases e : k = i
    · subst e
      simp [List.getElem?_set, hi, upd1]
    · simp [List.getElem?_set, e, hi, upd1, Ne.symm e]
  · by_cases e : k = i
    · omega
    · simp [List.getElem?_set, e, hi]
theorem rep_eF (h : n ≤ 6) : repL (.list [.none]) (.int (n : Int)) = .ok (eF n fun _ => none) := by
  rw [repL1 (by omega)]
  congr 2
  apply List.ext_getElem?
  intro i
  by_cases hi : i < n
  · simp [hi, eOp, tl, List.getElem?_replicate]
  · simp [hi, tl, List.getElem?_replicate]
/-- the best that is left for k -/
def B (n : Nat) (L : Nat → List Nat) (F : Nat → Option Nat) (k : Nat) : Option Nat := bl (L k) (tl n F)
def turn (n : Nat) (L : Nat → List Nat) (F : Nat → Option Nat) (k : Nat) : Nat → Option Nat := upd1 F k (B n L F k)
theorem sp_bestF (o : OkS n t L) {k : Nat} (hk : k < n) : m_best_left [eLs eNat (L k), eF n F] = .ok (eOp (B n L F k)) := sp_best (L k) (by have := o.len hk; omega) (tl n F)
theorem sp_turns (o : OkS n t L) {ord : List Nat} (hp : ord.Perm (List.range n)) : m_by_turns [eS n t L, eLs eNat ord] = .ok (eF n (ord.foldl (turn n L) fun _ => none)) := by
  have hl : ord.length = n := by rw [hp.length_eq, List.length_range]
  have h1 : m_turns_of [eS n t L, eLs eNat ord] = .ok (eF n (ord.foldl (turn n L) fun _ => none)) := by
    rw [m_turns_of, rd2_eq, b_turns_of]
    simp only [Res.bind_ok, mkL1, len_ls, hl, rep_eF (show n ≤ 6 by have := o.n2; omega), seq_ls (show ord.length ≤ 1000000 by have := o.n2; omega)]
    rw [forD_map (e := eNat) (en := eF n) (g := turn n L)]
    · rfl
    intro k G hk
    have hk' : k < n := List.mem_range.mp (hp.mem_iff.mp hk)
    simp only [ix0_eS, Res.bind_ok, eNat, ix_eLl hk', sp_bestF o hk', set_eF hk']
    rfl
  rw [m_by_turns, rd2_eq, b_by_turns]
  simp only [Res.bind_ok, sp_order o hp, h1]
  rfl
end
end K42

namespace K42
open PySem PySem.Spec L2 DL
open PyProof.Rows hiding St
/-! ### what is left, and who owns it -/
theorem bl_some {wish : List Nat} {ts : List (Option Nat)} {x : Nat} (h : bl wish ts = some x) : x ∈ wish ∧ some x ∉ ts := by
  unfold bl at h
  have := List.mem_of_head? h
  obtain ⟨h1, h2⟩ := List.mem_filter.mp this
  exact ⟨h1, by simpa using h2⟩
theorem bl_none {wish : List Nat} {ts : List (Option Nat)} (h : bl wish ts = none) : ∀ x ∈ wish, some x ∈ ts := fun x hx => by
  unfold bl at h
  rw [List.head?_eq_none_iff, List.filter_eq_nil_iff] at h
  have := h x hx
  simpa using this
theorem bl_same {wish : List Nat} {t1 t2 : List (Option Nat)} (h1 : ∀ x ∈ wish, some x ∈ t1 → some x ∈ t2) (h2 : ∀ x, bl wish t1 = some x → some x ∉ t2) : bl wish t2 = bl wish t1 := by
  induction wish with
  | nil => rfl
  | cons y r ih =>
    unfold bl at h2 ⊢
    rw [List.filter_cons] at h2 ⊢
    by_cases q1 : some y ∈ t1
    · have q2 := h1 y (by simp) q1
      rw [if_neg (by simp [q2])]
      rw [if_neg (by simp [q1])] at h2
      have e : (if (!decide (some y ∈ t1)) = true then y :: List.filter (fun x => !decide (some x ∈ t1)) r else List.filter (fun x => !decide (some x ∈ t1)) r) = List.filter (fun x => !decide (some x ∈ t1)) r := if_neg (by simp [q1])
      rw [List.filter_cons, e]
      exact ih (fun x hx => h1 x (List.mem_cons_of_mem _ hx)) h2
    · rw [if_pos (by simp [q1])] at h2
      have q2 := h2 y rfl
      rw [if_pos (by simp [q2]), List.filter_cons, if_pos (by simp [q1])]
      rfl
/-- the place of what one gets -/
def place (wish : List Nat) (x : Option Nat) : Nat := match x with | none => wish.length | some y => wish.idxOf y
theorem place_le {wish : List Nat} {x : Option Nat} (h : ∀ y, x = some y → y ∈ wish) : place wish x ≤ wish.length := by
  cases x with
  | none => exact Nat.le_refl _
  | some y => exact Nat.le_of_lt (List.idxOf_lt_length_of_mem (h y rfl))
theorem bl_place {wish : List Nat} {ts : List (Option Nat)} {x : Option Nat} (h : ∀ y, x = some y → y ∈ wish ∧ some y ∉ ts) : place wish (bl wish ts) ≤ place wish x := by
  cases x with
  | none => exact place_le fun y hy => (bl_some hy).1
  | some y =>
    obtain ⟨h1, h2⟩ := h y rfl
    induction wish with
    | nil => cases h1
    | cons z r ih =>
      by_cases q : some z ∈ ts
      · have zy : z ≠ y := fun e => by subst e; exact h2 q
        have e : bl (z :: r) ts = bl r ts := by
          unfold bl
          rw [List.filter_cons, if_neg (by simp [q])]
        have h1' : y ∈ r := by
          rcases List.mem_cons.mp h1 with e | e
          · exact absurd e.symm zy
          · exact e
        have := ih (fun w hw => by cases hw; exact ⟨h1', h2⟩) h1'
        rw [e]
        cases q2 : bl r ts with
        | none =>
          exact absurd (bl_none q2 y h1') h2
        | some w =>
          have zw : z ≠ w := fun e => by subst e; exact (bl_some q2).2 q
          rw [q2] at this
          simp only [place] at this ⊢
          rw [List.idxOf_cons, List.idxOf_cons, beq_eq_false_iff_ne.mpr zw, beq_eq_false_iff_ne.mpr zy, cond_false, cond_false]
          omega
      · have e : bl (z :: r) ts = some z := by
          unfold bl
          rw [List.filter_cons, if_pos (by simp [q])]
          rfl
        rw [e]
        simp [place]
section
variable (n : Nat) (L : Nat → List Nat) (cl : Nat → Option Nat)
def owns (F : Nat → Option Nat) (k o : Nat) : Bool := (cl o).isSome && decide (cl o = B n L F k) && !decide (o = k)
def nxt (F : Nat → Option Nat) (left : List Nat) (k : Nat) : Option Nat := (left.filter (owns n L cl F k)).head?
/-- follow the owners -/
def walk (F : Nat → Option Nat) (left : List Nat) : Nat → List Nat → Nat → List Nat × Option Nat
  | 0, road, _ => (road, none)
  | N + 1, road, here => if here ∈ road then (road, some here) else match nxt n L cl F left here with
    | none => (road ++ [here], none)
    | some h => walk F left N (road ++ [here]) h
def grpOf (w : List Nat × Option Nat) : List Nat := match w.2 with
  | none => [w.1.getLastD 0]
  | some h => w.1.drop (w.1.idxOf h)
def grp (F : Nat → Option Nat) (left : List Nat) : List Nat := grpOf (walk n L cl F left (n + 1) [] (left.headD 0))
def giveR (F : Nat → Option Nat) (g : List Nat) : Nat → Option Nat := fun j => if j ∈ g then B n L F j else F j
inductive Runs : (Nat → Option Nat) → List Nat → (Nat → Option Nat) → Prop
  | nil {F : Nat → Option Nat} : Runs F [] F
  | step {F R : Nat → Option Nat} {left : List Nat} : left ≠ [] → Runs (giveR n L F (grp n L cl F left)) (left.filter fun o => !decide (o ∈ grp n L cl F left)) R → Runs F left R
/-- what is so at each turn -/
structure St (F : Nat → Option Nat) (left : List Nat) : Prop where
  nd : left.Nodup
  lt : ∀ o ∈ left, o < n
  free : ∀ o ∈ left, F o = none
  cl : ∀ o ∈ left, ∀ y, cl o = some y → ∀ j, j < n → F j ≠ some y
  gv : Giv n L F
/-- a row that follows the owners -/
structure Chain (F : Nat → Option Nat) (left row : List Nat) : Prop where
  nd : row.Nodup
  sub : ∀ k ∈ row, k ∈ left
  nx : ∀ i, i + 1 < row.length → nxt n L cl F left (row.getD i 0) = some (row.getD (i + 1) 0)
/-- a group that gets what it wishes at once -/
structure Grp (F : Nat → Option Nat) (left g : List Nat) : Prop where
  nd : g.Nodup
  ne : g ≠ []
  sub : ∀ k ∈ g, k ∈ left
  cl : ∀ k ∈ g, ∀ y, B n L F k = some y → ∀ o ∈ left, cl o = some y → o ∈ g
  inj : ∀ j ∈ g, ∀ k ∈ g, ∀ y, B n L F j = some y → B n L F k = some y → j = k
end
section
variable {n t : Nat} {L : Nat → List Nat} {cl : Nat → Option Nat} {F : Nat → Option Nat} {left g : List Nat}
theorem nxt_some {k o : Nat} (h : nxt n L cl F left k = some o) : o ∈ left ∧ (∃ y, cl o = some y ∧ B n L F k = some y) ∧ o ≠ k := by
  unfold nxt at h
  obtain ⟨h1, h2⟩ := List.mem_filter.mp (List.mem_of_head? h)
  simp only [owns, Bool.and_eq_true, decide_eq_true_eq, Bool.not_eq_true', decide_eq_false_iff_not, Option.isSome_iff_exists] at h2
  obtain ⟨⟨⟨y, hy⟩, h3⟩, h4⟩ := h2
  exact ⟨h1, ⟨y, hy, by rw [← h3, hy]⟩, h4⟩
theorem nxt_none {k : Nat} (h : nxt n L cl F left k = none) {o y : Nat} (ho : o ∈ left) (hc : cl o = some y) (hb : B n L F k = some y) : o = k := by
  unfold nxt at h
  rw [List.head?_eq_none_iff, List.filter_eq_nil_iff] at h
  have := h o ho
  simp only [owns, hc, hb, Option.isSome_some, Bool.true_and, decide_true, Bool.not_eq_true', Bool.not_eq_true, Bool.not_eq_false', decide_eq_true_eq] at this
  simpa using this
theorem mem_tl {x : Nat} (h : some x ∈ tl n F) : ∃ j, j < n ∧ F j = some x := by
  obtain ⟨j, hj, e⟩ := List.mem_map.mp h
  exact ⟨j, List.mem_range.mp hj, e⟩
theorem tl_mem {x j : Nat} (hj : j < n) (e : F j = some x) : some x ∈ tl n F := List.mem_map.mpr ⟨j, List.mem_range.mpr hj, e⟩
theorem St.give (s : St n L cl F left) (G : Grp n L cl F left g) : St n L cl (giveR n L F g) (left.filter fun o => !decide (o ∈ g)) := by
  have mem : ∀ o, o ∈ left.filter (fun o => !decide (o ∈ g)) → o ∈ left ∧ o ∉ g := fun o ho => by
    obtain ⟨h1, h2⟩ := List.mem_filter.mp ho
    exact ⟨h1, by simpa using h2⟩
  refine ⟨List.Pairwise.filter _ s.nd, fun o ho => s.lt o (mem o ho).1, fun o ho => ?_, fun o ho y hy j hj => ?_, ⟨fun k hk x hx => ?_, fun j k hj hk x hx hy => ?_⟩⟩
  · unfold giveR
    rw [if_neg (mem o ho).2]
    exact s.free o (mem o ho).1
  · unfold giveR
    intro e
    split at e
    · rename_i hjg
      exact (mem o ho).2 (G.cl j hjg y e o (mem o ho).1 hy)
    · exact s.cl o (mem o ho).1 y hy j hj e
  · unfold giveR at hx
    split at hx
    · exact (bl_some hx).1
    · exact s.gv.inL k hk x hx
  · unfold giveR at hx hy
    split at hx
    · rename_i h1
      split at hy
      · rename_i h2
        exact G.inj j h1 k h2 x hx hy
      · exact absurd (tl_mem hk hy) (bl_some hx).2
    · split at hy
      · exact absurd (tl_mem hj hx) (bl_some hy).2
      · exact s.gv.inj j k hj hk x hx hy
end
end K42

namespace K42
open PySem PySem.Spec L2 DL
open PyProof.Rows hiding St
section
variable {n t : Nat} {L : Nat → List Nat} {cl : Nat → Option Nat} {F : Nat → Option Nat} {left row : List Nat}
theorem Chain.at (c : Chain n L cl F left row) {i : Nat} (h : i + 1 < row.length) : nxt n L cl F left row[i] = some row[i + 1] := by
  have := c.nx i h
  rw [List.getD_eq_getElem?_getD, List.getD_eq_getElem?_getD, List.getElem?_eq_getElem (by omega), List.getElem?_eq_getElem h] at this
  exact this
theorem grp_one {k : Nat} (hk : k ∈ left) (hn : nxt n L cl F left k = none) : Grp n L cl F left [k] := by
  refine ⟨by simp, by simp, fun j hj => ?_, fun j hj y hy o ho hc => ?_, fun i hi j hj y _ _ => ?_⟩
  · rw [List.mem_singleton.mp hj]; exact hk
  · rw [List.mem_singleton.mp hj] at hy
    rw [List.mem_singleton]
    exact nxt_none hn ho hc hy
  · rw [List.mem_singleton.mp hi, List.mem_singleton.mp hj]
/-- who gives to the one at place i of the ring -/
def succ (j m i : Nat) : Nat := if i + 1 < m then i + 1 else j
theorem grp_ring (s : St n L cl F left) (ci : ∀ j k, j < n → k < n → ∀ x, cl j = some x → cl k = some x → j = k) (c : Chain n L cl F left row) {j : Nat} (hj : j < row.length) (hn : nxt n L cl F left (row[row.length - 1]'(by omega)) = some row[j]) : Grp n L cl F left (row.drop j) := by
  have at_ : ∀ k ∈ row.drop j, ∃ i, ∃ h : i < row.length, j ≤ i ∧ row[i] = k := fun k hk => by
    obtain ⟨i, hi, e⟩ := List.mem_iff_getElem.mp hk
    rw [List.length_drop] at hi
    rw [List.getElem_drop] at e
    exact ⟨j + i, by omega, by omega, e⟩
  have sl : ∀ i, i < row.length → succ j row.length i < row.length := fun i hi => by unfold succ; split <;> omega
  have nx : ∀ i (h : i < row.length), ∃ y, B n L F row[i] = some y ∧ cl (row[succ j row.length i]'(sl i h)) = some y := fun i h => by
    by_cases q : i + 1 < row.length
    · obtain ⟨_, ⟨y, h1, h2⟩, _⟩ := nxt_some (c.at q)
      exact ⟨y, h2, by simp only [succ, if_pos q]; exact h1⟩
    · have e : i = row.length - 1 := by omega
      subst e
      obtain ⟨_, ⟨y, h1, h2⟩, _⟩ := nxt_some hn
      exact ⟨y, h2, by simp only [succ, if_neg q]; exact h1⟩
  have lt : ∀ i (h : i < row.length), row[i] < n := fun i h => s.lt _ (c.sub _ (List.getElem_mem _))
  refine ⟨?_, ?_, fun k hk => c.sub k (List.mem_of_mem_drop hk), fun k hk y hy o ho hc => ?_, fun a ha b hb y h1 h2 => ?_⟩
  · exact List.Pairwise.drop c.nd
  · intro e
    have := congrArg List.length e
    rw [List.length_drop] at this
    simp at this
    omega
  · obtain ⟨i, hi, hji, rfl⟩ := at_ k hk
    obtain ⟨y', h1, h2⟩ := nx i hi
    rw [hy] at h1
    cases h1
    have := ci o _ (s.lt o ho) (lt _ (sl i hi)) y hc h2
    rw [this]
    rw [List.mem_iff_getElem]
    have hs : j ≤ succ j row.length i := by unfold succ; split <;> omega
    refine ⟨succ j row.length i - j, by rw [List.length_drop]; have := sl i hi; omega, ?_⟩
    rw [List.getElem_drop]
    congr 1
    omega
  · obtain ⟨i, hi, hji, rfl⟩ := at_ a ha
    obtain ⟨k, hk, hjk, rfl⟩ := at_ b hb
    obtain ⟨y1, g1, g2⟩ := nx i hi
    obtain ⟨y2, g3, g4⟩ := nx k hk
    rw [h1] at g1
    rw [h2] at g3
    cases g1
    cases g3
    have e := ci _ _ (lt _ (sl i hi)) (lt _ (sl k hk)) y g2 g4
    have e2 := nd_inj c.nd (sl i hi) (sl k hk) e
    have : i = k := by
      unfold succ at e2
      split at e2 <;> split at e2 <;> omega
    subst this
    rfl
/-- a row that follows the owners is the walk's own beginning -/
theorem walk_chain (c : Chain n L cl F left row) : ∀ (i : Nat) (h : i < row.length) (N : Nat), row.length ≤ N → walk n L cl F left N [] (row[0]'(by omega)) = walk n L cl F left (N - i) (row.take i) row[i]
  | 0, _, _, _ => by rw [List.take_zero, Nat.sub_zero]
  | i + 1, h, N, hN => by
    rw [walk_chain c i (by omega) N hN]
    obtain ⟨M, hM⟩ : ∃ M, N - i = M + 1 := ⟨N - i - 1, by omega⟩
    rw [hM]
    have e1 : row[i]'(by omega) ∉ row.take i := not_mem_take c.nd (by omega)
    have e2 := c.at h
    rw [walk, if_neg e1, e2]
    have e3 : N - (i + 1) = M := by omega
    have e4 : row.take (i + 1) = row.take i ++ [row[i]'(by omega)] := by rw [List.take_succ_eq_append_getElem (by omega)]
    rw [e3, e4]
/-- the row's end -/
theorem grp_end (c : Chain n L cl F left row) (ne : row ≠ []) (hh : left.headD 0 = row.headD 0) (hl : row.length ≤ n) {k : Nat} (hk : row.getLast? = some k) :
    (nxt n L cl F left k = none → grp n L cl F left = [k]) ∧ (∀ o, nxt n L cl F left k = some o → o ∈ row → grp n L cl F left = row.drop (row.idxOf o)) := by
  have hp : 0 < row.length := List.length_pos_iff.mpr ne
  have e0 : left.headD 0 = row[0] := by
    rw [hh]
    cases row with
    | nil => exact absurd rfl ne
    | cons x r => rfl
  have ek : row[row.length - 1]'(by omega) = k := by
    rw [List.getLast?_eq_getElem?, List.getElem?_eq_getElem (by omega)] at hk
    exact Option.some.inj hk
  have w := walk_chain c (row.length - 1) (by omega) (n + 1) (by omega)
  obtain ⟨M, hM⟩ : ∃ M, n + 1 - (row.length - 1) = M + 2 := ⟨n - row.length, by omega⟩
  rw [hM, ek] at w
  have e1 : k ∉ row.take (row.length - 1) := by rw [← ek]; exact not_mem_take c.nd (by omega)
  have e2 : row.take (row.length - 1) ++ [k] = row := by
    rw [← ek, ← List.take_succ_eq_append_getElem (by omega), List.take_of_length_le (by omega)]
  refine ⟨fun hn => ?_, fun o hn ho => ?_⟩
  · unfold grp
    rw [e0, w, walk, if_neg e1, hn, e2]
    show [row.getLastD 0] = [k]
    rw [List.getLastD_eq_getLast?, hk]
    rfl
  · unfold grp
    rw [e0, w, walk, if_neg e1, hn]
    show grpOf (walk n L cl F left (M + 1) (row.take (row.length - 1) ++ [k]) o) = _
    rw [e2, walk, if_pos ho]
    rfl
end
end K42

namespace K42
open PySem PySem.Spec L2 DL
open PyProof.Rows hiding St
section
variable {n t : Nat} {L : Nat → List Nat} {cl : Nat → Option Nat} {F : Nat → Option Nat} {left row g : List Nat}
abbrev cut (left g : List Nat) : List Nat := left.filter fun o => !decide (o ∈ g)
theorem mem_cut {o : Nat} : o ∈ cut left g ↔ o ∈ left ∧ o ∉ g := by
  rw [List.mem_filter]
  simp
theorem giveR_keep (s : St n L cl F left) (G : Grp n L cl F left g) {x : Nat} (h : some x ∈ tl n F) : some x ∈ tl n (giveR n L F g) := by
  obtain ⟨j, hj, e⟩ := mem_tl h
  refine tl_mem hj ?_
  unfold giveR
  split
  · rename_i hg
    rw [s.free j (G.sub j hg)] at e
    cases e
  · exact e
theorem giveR_new {x : Nat} (h : some x ∈ tl n (giveR n L F g)) : some x ∈ tl n F ∨ ∃ j ∈ g, B n L F j = some x := by
  obtain ⟨j, hj, e⟩ := mem_tl h
  unfold giveR at e
  split at e
  · rename_i hg
    exact .inr ⟨j, hg, e⟩
  · exact .inl (tl_mem hj e)
theorem nxt_keep (s : St n L cl F left) (ci : ∀ j k, j < n → k < n → ∀ x, cl j = some x → cl k = some x → j = k) (G : Grp n L cl F left g) {a b : Nat} (hb : b ∉ g) (h : nxt n L cl F left a = some b) : nxt n L cl (giveR n L F g) (cut left g) a = some b := by
  obtain ⟨h1, ⟨y, h2, h3⟩, h4⟩ := nxt_some h
  have hB : B n L (giveR n L F g) a = some y := by
    rw [← h3]
    refine bl_same (fun x _ hx => giveR_keep s G hx) fun x hx hc => ?_
    have hx' : B n L F a = some x := hx
    rw [h3] at hx'
    cases hx'
    rcases giveR_new hc with q | ⟨j, hj, e⟩
    · exact (bl_some hx).2 q
    · exact hb (G.cl j hj y e b h1 h2)
  have hb' : b ∈ cut left g := mem_cut.mpr ⟨h1, hb⟩
  unfold nxt
  have hm : b ∈ (cut left g).filter (owns n L cl (giveR n L F g) a) := List.mem_filter.mpr ⟨hb', by simp [owns, h2, hB, h4]⟩
  cases q : (cut left g).filter (owns n L cl (giveR n L F g) a) with
  | nil => rw [q] at hm; cases hm
  | cons z r =>
    have hz : z ∈ (cut left g).filter (owns n L cl (giveR n L F g) a) := by rw [q]; simp
    obtain ⟨z1, z2⟩ := List.mem_filter.mp hz
    simp only [owns, hB, Bool.and_eq_true, decide_eq_true_eq] at z2
    have := ci z b (s.lt z (mem_cut.mp z1).1) (s.lt b h1) y z2.1.2 h2
    rw [this]
    rfl
theorem chain_keep (s : St n L cl F left) (ci : ∀ j k, j < n → k < n → ∀ x, cl j = some x → cl k = some x → j = k) (G : Grp n L cl F left g) (c : Chain n L cl F left row) (m : Nat) (hg : ∀ k ∈ row.take m, k ∉ g) : Chain n L cl (giveR n L F g) (cut left g) (row.take m) := by
  refine ⟨List.Pairwise.take c.nd, fun k hk => mem_cut.mpr ⟨c.sub k (List.mem_of_mem_take hk), hg k hk⟩, fun i hi => ?_⟩
  rw [List.length_take] at hi
  have e : ∀ j, j < m → (row.take m).getD j 0 = row.getD j 0 := fun j hj => by
    rw [List.getD_eq_getElem?_getD, List.getD_eq_getElem?_getD, List.getElem?_take, if_pos hj]
  rw [e i (by omega), e (i + 1) (by omega)]
  have h := c.nx i (by omega)
  refine nxt_keep s ci G (hg _ ?_) h
  rw [List.getD_eq_getElem?_getD, List.getElem?_eq_getElem (show i + 1 < row.length by omega)]
  rw [List.mem_take_iff_getElem]
  exact ⟨i + 1, by omega, rfl⟩
theorem head_keep {x : Nat} (hx : left.headD 0 = x) (ne : left ≠ []) (hg : x ∉ g) : (cut left g).headD 0 = x := by
  cases left with
  | nil => exact absurd rfl ne
  | cons y r =>
    have e : y = x := hx
    subst e
    unfold cut
    rw [List.filter_cons, if_pos (by simp [hg])]
    rfl
theorem cut_len (G : Grp n L cl F left g) : (cut left g).length < left.length := by
  obtain ⟨k, hk⟩ := List.exists_mem_of_ne_nil g G.ne
  have h1 : k ∈ left := G.sub k hk
  refine Nat.lt_of_le_of_ne (List.length_filter_le _ _) fun e => ?_
  have := List.length_filter_eq_length_iff.mp e k h1
  simp [hk] at this
/-- the order in which things are got -/
structure Ordr (n : Nat) (L : Nat → List Nat) (F : Nat → Option Nat) (seq : List Nat) : Prop where
  best : ∀ i (h : i < seq.length), F seq[i] = bl (L seq[i]) ((seq.take i).map F)
theorem ordr_give (s : St n L cl F left) (G : Grp n L cl F left g) {seq : List Nat} (hs : ∀ k, k < n → (k ∈ seq ↔ k ∉ left)) (hl : ∀ k ∈ seq, k < n) (q : Ordr n L F seq) : Ordr n L (giveR n L F g) (seq ++ g) := by
  have old : ∀ k ∈ seq, giveR n L F g k = F k := fun k hk => by
    unfold giveR
    rw [if_neg fun z => (hs k (hl k hk)).mp hk (G.sub k z)]
  have map_old : ∀ l : List Nat, (∀ k ∈ l, k ∈ seq) → l.map (giveR n L F g) = l.map F := fun l h => List.map_congr_left fun k hk => old k (h k hk)
  refine ⟨fun i h => ?_⟩
  by_cases hi : i < seq.length
  · rw [List.getElem_append_left hi, List.take_append_of_le_length (by omega), old _ (List.getElem_mem _), map_old _ fun k hk => List.mem_of_mem_take hk]
    exact q.best i hi
  · rw [List.length_append] at h
    rw [List.getElem_append_right (by omega), List.take_append, List.take_of_length_le (show seq.length ≤ i by omega), List.map_append, map_old _ fun k hk => hk]
    have hm : g[i - seq.length]'(by omega) ∈ g := List.getElem_mem _
    have e1 : giveR n L F g (g[i - seq.length]'(by omega)) = B n L F (g[i - seq.length]'(by omega)) := by unfold giveR; rw [if_pos hm]
    rw [e1]
    symm
    refine bl_same (fun x _ hx => ?_) fun x hx hc => ?_
    · obtain ⟨j, hj, e⟩ := mem_tl hx
      refine List.mem_append_left _ (List.mem_map.mpr ⟨j, ?_, e⟩)
      refine (hs j hj).mpr fun z => ?_
      rw [s.free j z] at e
      cases e
    · rcases List.mem_append.mp hc with hc | hc
      · obtain ⟨j, hj, e⟩ := List.mem_map.mp hc
        exact (bl_some hx).2 (tl_mem (hl j hj) e)
      · obtain ⟨j, hj, e⟩ := List.mem_map.mp hc
        obtain ⟨p, hp, rfl⟩ := List.mem_take_iff_getElem.mp hj
        have hjg : g[p]'(by omega) ∈ g := List.getElem_mem _
        have e2 : B n L F (g[p]'(by omega)) = some x := by
          unfold giveR at e
          rw [if_pos hjg] at e
          exact e
        have e3 := G.inj _ hjg _ hm x e2 hx
        have := nd_inj G.nd (by omega) (by omega) e3
        omega
end
end K42

namespace K42
open PySem PySem.Spec L2 DL
open PyProof.Rows hiding St
section
variable {n t : Nat} {L : Nat → List Nat} {cl : Nat → Option Nat} {F : Nat → Option Nat} {left row g : List Nat}
theorem Chain.len (s : St n L cl F left) (c : Chain n L cl F left row) : row.length ≤ n := nd_len c.nd fun k hk => s.lt k (c.sub k hk)
theorem Chain.one {k : Nat} (h : k ∈ left) : Chain n L cl F left [k] := ⟨by simp, fun j hj => by rw [List.mem_singleton.mp hj]; exact h, fun i hi => by simp at hi⟩
theorem Chain.ext (c : Chain n L cl F left row) {k o : Nat} (hk : row.getLast? = some k) (hn : nxt n L cl F left k = some o) (ho : o ∉ row) : Chain n L cl F left (row ++ [o]) := by
  refine ⟨?_, fun j hj => ?_, fun i hi => ?_⟩
  · rw [List.nodup_append]
    refine ⟨c.nd, by simp, fun a ha b hb e => ?_⟩
    rw [List.mem_singleton.mp hb] at e
    subst e
    exact ho ha
  · rcases List.mem_append.mp hj with h | h
    · exact c.sub j h
    · rw [List.mem_singleton.mp h]; exact (nxt_some hn).1
  · rw [List.length_append, List.length_singleton] at hi
    by_cases q : i + 1 < row.length
    · have := c.nx i q
      rw [List.getD_eq_getElem?_getD, List.getD_eq_getElem?_getD, List.getElem?_append_left (by omega), List.getElem?_append_left (by omega)]
      rw [List.getD_eq_getElem?_getD, List.getD_eq_getElem?_getD] at this
      exact this
    · have e : i + 1 = row.length := by omega
      rw [List.getD_eq_getElem?_getD, List.getD_eq_getElem?_getD, List.getElem?_append_left (by omega), List.getElem?_append_right (by omega), e]
      rw [List.getLast?_eq_getElem?, show row.length - 1 = i by omega] at hk
      rw [hk]
      simp only [Nat.sub_self, Option.getD_some]
      exact hn
theorem last_of (ne : row ≠ []) : ∃ k, row.getLast? = some k ∧ k ∈ row := by
  refine ⟨row.getLast ne, List.getLast?_eq_some_getLast ne, List.getLast_mem ne⟩
theorem grp_ok (s : St n L cl F left) (ci : ∀ j k, j < n → k < n → ∀ x, cl j = some x → cl k = some x → j = k) : ∀ (m : Nat) (row : List Nat), n - row.length ≤ m → Chain n L cl F left row → row ≠ [] → left.headD 0 = row.headD 0 → Grp n L cl F left (grp n L cl F left)
  | m, row, hm, c, ne, hh => by
    obtain ⟨k, hk, hkm⟩ := last_of ne
    have hl := c.len s
    have hp : 0 < row.length := List.length_pos_iff.mpr ne
    have ek : row[row.length - 1]'(by omega) = k := by
      rw [List.getLast?_eq_getElem?, List.getElem?_eq_getElem (by omega)] at hk
      exact Option.some.inj hk
    obtain ⟨e1, e2⟩ := grp_end c ne hh hl hk
    cases q : nxt n L cl F left k with
    | none =>
      rw [e1 q]
      exact grp_one (c.sub k hkm) q
    | some o =>
      by_cases ho : o ∈ row
      · rw [e2 o q ho]
        have hj := List.idxOf_lt_length_of_mem ho
        have eo : row[row.idxOf o]'hj = o := List.getElem_idxOf hj
        exact grp_ring s ci c hj (by rw [ek, eo]; exact q)
      · have c2 := c.ext hk q ho
        have hl2 := c2.len s
        rw [List.length_append, List.length_singleton] at hl2
        cases m with
        | zero => omega
        | succ m =>
          refine grp_ok s ci m (row ++ [o]) (by rw [List.length_append, List.length_singleton]; omega) c2 (by simp) ?_
          rw [hh]
          cases row with
          | nil => exact absurd rfl ne
          | cons x r => rfl
theorem grp_first (s : St n L cl F left) (ci : ∀ j k, j < n → k < n → ∀ x, cl j = some x → cl k = some x → j = k) (ne : left ≠ []) : Grp n L cl F left (grp n L cl F left) := by
  have hm : left.headD 0 ∈ left := by
    cases left with
    | nil => exact absurd rfl ne
    | cons x r => exact List.mem_cons_self
  exact grp_ok s ci n [left.headD 0] (by omega) (Chain.one hm) (by simp) rfl
/-- what all turns keep, and what they end in -/
structure Done (n : Nat) (L : Nat → List Nat) (cl R : Nat → Option Nat) : Prop where
  gv : Giv n L R
  ir : ∀ k, k < n → place (L k) (R k) ≤ place (L k) (cl k)
  seq : ∃ seq : List Nat, seq.Nodup ∧ (∀ k, k ∈ seq ↔ k < n) ∧ Ordr n L R seq
structure Mid (n : Nat) (L : Nat → List Nat) (cl F : Nat → Option Nat) (left : List Nat) : Prop where
  ir : ∀ k, k < n → k ∉ left → place (L k) (F k) ≤ place (L k) (cl k)
  seq : ∃ seq : List Nat, seq.Nodup ∧ (∀ k ∈ seq, k < n) ∧ (∀ k, k < n → (k ∈ seq ↔ k ∉ left)) ∧ Ordr n L F seq
theorem Mid.give (s : St n L cl F left) (cg : Giv n L cl) (G : Grp n L cl F left g) (m : Mid n L cl F left) : Mid n L cl (giveR n L F g) (cut left g) := by
  refine ⟨fun k hk hn => ?_, ?_⟩
  · unfold giveR
    split
    · rename_i hg
      refine bl_place fun y hy => ⟨cg.inL k hk y hy, fun z => ?_⟩
      obtain ⟨j, hj, e⟩ := mem_tl z
      exact s.cl k (G.sub k hg) y hy j hj e
    · rename_i hg
      exact m.ir k hk fun z => hn (mem_cut.mpr ⟨z, hg⟩)
  · obtain ⟨seq, q1, q2, q3, q4⟩ := m.seq
    refine ⟨seq ++ g, ?_, fun k hk => ?_, fun k hk => ?_, ordr_give s G q3 q2 q4⟩
    · rw [List.nodup_append]
      exact ⟨q1, G.nd, fun a ha b hb e => by
        subst e
        exact (q3 a (q2 a ha)).mp ha (G.sub a hb)⟩
    · rcases List.mem_append.mp hk with h | h
      · exact q2 k h
      · exact s.lt k (G.sub k h)
    · rw [List.mem_append, mem_cut, q3 k hk]
      by_cases h1 : k ∈ left <;> by_cases h2 : k ∈ g <;> simp [h1, h2]
theorem runs_all (cg : Giv n L cl) : ∀ (m : Nat) (F : Nat → Option Nat) (left : List Nat), left.length ≤ m → St n L cl F left → Mid n L cl F left → ∃ R, Runs n L cl F left R ∧ Done n L cl R
  | m, F, left, hm, s, md => by
    by_cases ne : left = []
    · subst ne
      obtain ⟨seq, q1, q2, q3, q4⟩ := md.seq
      exact ⟨F, .nil, s.gv, fun k hk => md.ir k hk (by simp), seq, q1, fun k => ⟨q2 k, fun hk => (q3 k hk).mpr (by simp)⟩, q4⟩
    · have G := grp_first s cg.inj ne
      have hl := cut_len G
      cases m with
      | zero => exact absurd (List.eq_nil_of_length_eq_zero (by omega)) ne
      | succ m =>
        obtain ⟨R, h1, h2⟩ := runs_all cg m _ (cut left (grp n L cl F left)) (by omega) (s.give G) (md.give s cg G)
        exact ⟨R, .step ne h1, h2⟩
theorem start_ok (cg : Giv n L cl) {ord : List Nat} (hp : ord.Perm (List.range n)) : St n L cl (fun _ => none) ord ∧ Mid n L cl (fun _ => none) ord := by
  have hm : ∀ k, k ∈ ord ↔ k < n := fun k => by rw [hp.mem_iff, List.mem_range]
  refine ⟨⟨hp.nodup_iff.mpr List.nodup_range, fun o ho => (hm o).mp ho, fun _ _ => rfl, fun _ _ _ _ _ _ => by simp, ⟨fun _ _ _ h => (by cases h), fun _ _ _ _ _ h _ => (by cases h)⟩⟩, fun k hk hn => absurd ((hm k).mpr hk) hn, [], by simp, ?_, fun k hk => ?_, ⟨fun i hi => by simp at hi⟩⟩
  · intro k hk
    cases hk
  · simp [(hm k).mpr hk]
end
end K42

namespace K42
open PySem PySem.Spec L2 DL
open PyProof.Rows hiding St
theorem whileD_run {S M σ : Type} {c : S → Res Bool} {f : S → Res (Fl S S)} {en : σ → S} (P : σ → Prop) (mu : σ → Nat)
    (H : ∀ s, P s → c (en s) = .ok false ∨ (c (en s) = .ok true ∧ ∃ s', f (en s) = .ok (.nx (en s')) ∧ P s' ∧ mu s' < mu s)) : ∀ (N : Nat) (s : σ), P s → mu s < N → ∃ s', (whileD c f N (en s) : Res (Fl S M)) = .ok (.nx (en s')) ∧ P s' ∧ c (en s') = .ok false
  | 0, s, _, h => absurd h (Nat.not_lt_zero _)
  | N + 1, s, hp, hm => by
    rcases H s hp with h | ⟨h, s', h1, h2, h3⟩
    · exact ⟨s, by rw [whileD, h]; rfl, hp, h⟩
    · obtain ⟨s2, g1, g2, g3⟩ := whileD_run P mu H N s' h2 (by omega)
      refine ⟨s2, ?_, g2, g3⟩
      rw [whileD, h, Res.bind_ok, if_pos rfl, h1, Res.bind_ok]
      exact g1
section
variable {n t : Nat} {L : Nat → List Nat} {cl : Nat → Option Nat} {F : Nat → Option Nat} {left row g : List Nat}
theorem give_one {k : Nat} : upd1 F k (B n L F k) = giveR n L F [k] := by
  funext j
  unfold upd1 giveR
  by_cases h : j = k
  · subst h; simp
  · simp [h]
theorem give_fold (F0 : Nat → Option Nat) : ∀ (ring : List Nat) (G : Nat → Option Nat), (ring.map fun k => (k, B n L F0 k)).foldl (fun G p => upd1 G p.1 p.2) G = fun j => if j ∈ ring then B n L F0 j else G j
  | [], G => by funext j; simp
  | k :: r, G => by
    rw [List.map_cons, List.foldl_cons, give_fold F0 r]
    funext j
    by_cases h : j ∈ r
    · simp [h]
    · by_cases h2 : j = k
      · subst h2; simp [h, upd1]
      · simp [h, h2, upd1]
def en (n : Nat) (s : (Nat → Option Nat) × List Nat × List Nat) : D × D × D := (eF n s.1, eLs eNat s.2.1, eLs eNat s.2.2)
theorem ls_last {xs : List Nat} {k : Nat} (h : xs.getLast? = some k) : ixD (eLs eNat xs) (.int (-1)) = .ok (.int (k : Int)) := ixD_last (by rw [List.getLast?_map, h]; rfl)
theorem owners (o : OkS n t L) (hl : ∀ j ∈ left, j < n) (hz : left.length ≤ 1000) {k : Nat} : lcR (.ok (left.map eNat)) (fun q44 => lcF ((ixD (eF n cl) q44 >>= fun x48 => isntD x48 .none) >>= fun t57 => if t57 then ((ixD (eF n cl) q44 >>= fun x52 => eqD x52 (eOp (B n L F k))) >>= fun t56 => if t56 then neD q44 (.int (k : Int)) else .ok false) else .ok false) (.ok q44)) = .ok (eLs eNat (left.filter (owns n L cl F k))) := by
  refine lcR_fm fun j hj => ?_
  have hj' := hl j hj
  have e1 : ixD (eF n cl) (eNat j) = .ok (eOp (cl j)) := ix_eF hj'
  have e2 : isN (eOp (cl j)) = !(cl j).isSome := by cases cl j <;> rfl
  have e3 : neD (eNat j) (.int (k : Int)) = .ok (!decide (j = k)) := encNat.neD (by decide) j k
  simp only [e1, Res.bind_ok, isntD_none, e2, Bool.not_not, encOp.eqD (by decide), e3, owns]
  by_cases h2 : cl j = B n L F k
  · by_cases h1 : (cl j).isSome = true
    · by_cases h3 : j = k <;> simp [h1, h2 ▸ h1, h2, h3, lcF_ok]
    · simp [h1, lcF_ok]
  · by_cases h1 : (cl j).isSome = true <;> simp [h1, h2, lcF_ok]
theorem ls_head {xs : List Nat} {o : Nat} (h : xs.head? = some o) : ixD (eLs eNat xs) (.int 0) = .ok (.int (o : Int)) := by
  cases xs with
  | nil => cases h
  | cons x r => cases h; exact ixD_0
theorem dec_len {α : Type} [DecidableEq α] (xs : List α) : decide (((xs.length : Nat) : Int) = 0) = decide (xs = []) := by
  rw [decide_eq_decide]
  exact ⟨fun h => List.eq_nil_of_length_eq_zero (by omega), fun h => by rw [h]; rfl⟩
theorem filt_ls {p : Nat → Bool} {H : D → Res (List D)} {xs : List Nat} (h : ∀ j ∈ xs, H (eNat j) = .ok (if p j then [eNat j] else [])) : lcR (.ok (xs.map eNat)) H = .ok (eLs eNat (xs.filter p)) := lcR_fm h
theorem sp_with (o : OkS n t L) (cg : Giv n L cl) {ord : List Nat} (hp : ord.Perm (List.range n)) {R : Nat → Option Nat} (hr : Runs n L cl (fun _ => none) ord R) : m_with_claims [eS n t L, eLs eNat ord, eF n cl] = .ok (eF n R) := by
  have n2 := o.n2
  have hl0 : ord.length = n := by rw [hp.length_eq, List.length_range]
  have ld : listD true .sh (eLs eNat ord) = .ok (eLs eNat ord) := listD_ok
  have fin : ∀ (c : D × D × D → Res Bool) (f : D × D × D → Res (Fl (D × D × D) (D × D × D))) (k : D × D × D → Res (Fl Unit Empty)),
      (∀ F left row, c (en n (F, left, row)) = .ok (decide ((0 : Int) < ((left.length : Nat) : Int)))) →
      (∀ F left row, St n L cl F left → left ≠ [] → Chain n L cl F left row → (row ≠ [] → left.headD 0 = row.headD 0) → ∃ F' left' row', f (en n (F, left, row)) = .ok (.nx (en n (F', left', row'))) ∧ Chain n L cl F' left' row' ∧ (row' ≠ [] → left'.headD 0 = row'.headD 0) ∧
        ((F' = F ∧ left' = left ∧ row.length < row'.length) ∨ (F' = giveR n L F (grp n L cl F left) ∧ left' = cut left (grp n L cl F left)))) →
      (∀ s, k s = .ok (.rt s.1)) → fnR .ow (Fl.seq (whileD c f fuelN (eF n fun _ => none, eLs eNat ord, .list [])) k) = .ok (eF n R) := fun c f k hc hf hk => by
    obtain ⟨⟨F', left', row'⟩, e1, ⟨p1, p2, p3, p4⟩, e3⟩ := whileD_run (M := Empty) (c := c) (f := f) (en := en n) (fun s => St n L cl s.1 s.2.1 ∧ Chain n L cl s.1 s.2.1 s.2.2 ∧ (s.2.2 ≠ [] → s.2.1.headD 0 = s.2.2.headD 0) ∧ Runs n L cl s.1 s.2.1 R)
      (fun s => (n + 1) * s.2.1.length + (n - s.2.2.length)) (fun ⟨F, left, row⟩ ⟨h1, h2, h3, h4⟩ => by
        by_cases ne : left = []
        · refine .inl ?_
          rw [hc, ne]
          rfl
        · have hc' : c (en n (F, left, row)) = .ok true := by
            rw [hc, decide_eq_true]
            have := List.length_pos_iff.mpr ne
            omega
          obtain ⟨F', left', row', g1, g2, g3, g4⟩ := hf F left row h1 ne h2 h3
          refine .inr ⟨hc', (F', left', row'), g1, ?_⟩
          rcases g4 with ⟨rfl, rfl, g5⟩ | ⟨rfl, rfl⟩
          · refine ⟨⟨h1, g2, g3, h4⟩, ?_⟩
            have := g2.len h1
            show (n + 1) * left'.length + (n - row'.length) < (n + 1) * left'.length + (n - row.length)
            omega
          · have G := grp_first h1 cg.inj ne
            have hlt := cut_len G
            cases h4 with
            | nil => exact absurd rfl ne
            | step _ h5 =>
              refine ⟨⟨h1.give G, g2, g3, h5⟩, ?_⟩
              show (n + 1) * (cut left (grp n L cl F left)).length + (n - row'.length) < (n + 1) * left.length + (n - row.length)
              have : (n + 1) * (cut left (grp n L cl F left)).length + (n + 1) ≤ (n + 1) * left.length := by
                rw [← Nat.mul_succ]
                exact Nat.mul_le_mul_left _ hlt
              omega) fuelN (fun _ => none, ord, []) ⟨(start_ok cg hp).1, ⟨by simp, fun _ h => (by cases h), fun i h => (by simp at h)⟩, fun h => absurd rfl h, hr⟩ (by
        show (n + 1) * ord.length + (n - 0) < fuelN
        rw [hl0]
        have : (n + 1) * n ≤ 6 * 5 := Nat.mul_le_mul (by omega) n2
        unfold fuelN
        omega)
    have e0 : left' = [] := by
      rw [hc] at e3
      have := Res.ok.inj e3
      rw [decide_eq_false_iff_not] at this
      exact List.eq_nil_of_length_eq_zero (by omega)
    have eR : F' = R := by
      have p4' : Runs n L cl F' left' R := p4
      rw [e0] at p4'
      cases p4' with
      | nil => rfl
      | step h _ => exact absurd rfl h
    have e1' : (whileD c f fuelN (eF n fun _ => none, eLs eNat ord, .list []) : Res (Fl (D × D × D) Empty)) = .ok (.nx (en n (F', left', row'))) := e1
    rw [e1', Fl.seq_nx, hk, ← eR]
    rfl
  rw [m_with_claims, rd3_eq, b_with_claims]
  simp only [Res.bind_ok, sp_order o hp, sp_giving o cg, toB_bool, Bool.not_true, Bool.false_eq_true, if_false, mkL1, len_ls, hl0, rep_eF (show n ≤ 6 by omega), ld, capK_ow, mkL0]
  refine fin _ _ _ (fun F left row => ?_) (fun F left row s ne c hh => ?_) (fun s => rfl)
  · simp only [en, len_ls, Res.bind_ok, gtI_int]
  have hlt : ∀ j ∈ left, j < n := s.lt
  have hln : left.length ≤ n := nd_len s.nd hlt
  have hz : left.length ≤ 1000000 := by omega
  -- the row of this turn
  obtain ⟨row1, r1, r2, r3, r4, r5⟩ : ∃ row1, Chain n L cl F left row1 ∧ row1 ≠ [] ∧ left.headD 0 = row1.headD 0 ∧ (∀ K : D → Res (Fl (D × D × D) (D × D × D)), (Fl.seq (if decide (((row.length : Nat) : Int) = 0) = true then ((((ixD (eLs eNat left) (.int 0) >>= fun x1 => .ok [x1]) >>= mkL) >>= capK .ow) >>= fun v29 => .ok (.nx v29)) else .ok (.nx (eLs eNat row))) K : Res (Fl (D × D × D) (D × D × D))) = K (eLs eNat row1)) ∧ row.length ≤ row1.length := by
    rw [dec_len]
    by_cases e : row = []
    · obtain ⟨x, r, rfl⟩ : ∃ x r, left = x :: r := by
        cases left with
        | nil => exact absurd rfl ne
        | cons x r => exact ⟨x, r, rfl⟩
      refine ⟨[x], Chain.one (by simp), by simp, rfl, fun K => ?_, by rw [e]; simp⟩
      rw [decide_eq_true e, if_pos rfl]
      have e2 : ixD (eLs eNat (x :: r)) (.int 0) = .ok (eNat x) := ixD_0
      rw [e2, Res.bind_ok, Res.bind_ok, mkL1, Res.bind_ok, capK_ow, Res.bind_ok, Fl.seq_nx]
      rfl
    · exact ⟨row, c, e, hh e, fun K => by rw [decide_eq_false e, if_neg Bool.false_ne_true, Fl.seq_nx], Nat.le_refl _⟩
  obtain ⟨k, hk, hkm⟩ := last_of r2
  have hkl : k ∈ left := r1.sub k hkm
  have hkn : k < n := hlt k hkl
  obtain ⟨ge1, ge2⟩ := grp_end r1 r2 r3 (r1.len s) hk
  have ll := ls_last hk
  have bk := sp_bestF (F := F) o hkn
  have xk := ix_eLl (L := L) hkn
  have ow := owners (F := F) (cl := cl) (left := left) (k := k) o hlt (by omega)
  simp only [en, len_ls, Res.bind_ok, eqD_int, negI_int]
  rw [r4]
  simp only [ll, ix0_eS, xk, bk, seq_ls hz, Res.bind_ok]
  rw [ow]
  simp only [Res.bind_ok, len_ls, eqD_int, dec_len]
  have e35 : row1.dropLast.length < row1.length := by rw [List.length_dropLast]; have := List.length_pos_iff.mpr r2; omega
  have hd : ∀ m, 0 < m → m ≤ row1.length → (row1.take m).headD 0 = row1.headD 0 := fun m h1 h2 => by
    cases row1 with
    | nil => exact absurd rfl r2
    | cons x r =>
      obtain ⟨q, rfl⟩ : ∃ q, m = q + 1 := ⟨m - 1, by omega⟩
      rfl
  have t1i : DL.toI (.int (-1)) = .ok (some (-1)) := rfl
  cases q : nxt n L cl F left k with
  | none =>
    have q' : left.filter (owns n L cl F k) = [] := List.head?_eq_none_iff.mp q
    have eg := ge1 q
    refine ⟨giveR n L F [k], cut left [k], row1.dropLast, ?_, ?_, ?_, .inr (by rw [eg]; exact ⟨rfl, rfl⟩)⟩
    · rw [q', decide_eq_true rfl, if_pos rfl, set_eF hkn, Res.bind_ok, filt_ls (p := fun j => !decide (j ∈ [k])) fun j hj => by
        have e3 : neD (eNat j) (.int (k : Int)) = .ok (!decide (j = k)) := encNat.neD (by decide) j k
        rw [e3, lcF_ok]
        simp]
      have e4 : slcL true .sh (eLs eNat row1) none (some (-1)) = .ok (eLs eNat row1.dropLast) := by
        unfold eLs
        rw [slc_init, List.map_dropLast]
      simp only [Res.bind_ok, t1i, e4, capK_ow, Fl.seq_nx]
      rw [← give_one]
    · have := chain_keep s cg.inj (grp_one hkl q) r1 (row1.length - 1) fun j hj => by
        rw [List.mem_singleton]
        intro z
        subst z
        have e5 : row1[row1.length - 1]'(by omega) = j := by
          rw [List.getLast?_eq_getElem?, List.getElem?_eq_getElem (by omega)] at hk
          exact Option.some.inj hk
        rw [← e5] at hj
        exact not_mem_take r1.nd (by omega) hj
      rw [List.dropLast_eq_take]
      exact this
    · intro hne
      rw [List.dropLast_eq_take] at hne ⊢
      have hp : 0 < row1.length - 1 := by
        rcases Nat.eq_zero_or_pos (row1.length - 1) with z | z
        · rw [z] at hne; exact absurd rfl hne
        · exact z
      rw [hd _ hp (by omega)]
      refine head_keep (by rw [r3]) ne ?_
      rw [List.mem_singleton]
      intro z
      have e5 : row1[row1.length - 1]'(by omega) = k := by
        rw [List.getLast?_eq_getElem?, List.getElem?_eq_getElem (by omega)] at hk
        exact Option.some.inj hk
      have e6 : row1.headD 0 = row1[0]'(by omega) := by
        cases row1 with
        | nil => exact absurd rfl r2
        | cons x r => rfl
      rw [e6, ← e5] at z
      have := nd_inj r1.nd (by omega) (by omega) z
      omega
  | some w =>
    obtain ⟨w1, _, _⟩ := nxt_some q
    have qn : left.filter (owns n L cl F k) ≠ [] := fun e => by
      unfold nxt at q
      rw [e] at q
      cases q
    have qh := ls_head (xs := left.filter (owns n L cl F k)) q
    have ein : DL.inL (.int (w : Int)) (eLs eNat row1) = .ok (decide (w ∈ row1)) := encNat.inL (by decide) w row1
    rw [decide_eq_false qn, if_neg Bool.false_ne_true]
    simp only [qh, Res.bind_ok, ein]
    by_cases hw : w ∈ row1
    · have eg := ge2 w q hw
      have hj := List.idxOf_lt_length_of_mem hw
      rw [decide_eq_true hw, if_pos rfl]
      have ix : indexL (row1.map eNat) (.int (w : Int)) = .ok (.int (row1.idxOf w : Nat)) := encNat.index (by decide) hw
      have easl : asL (eLs eNat row1) = .ok (row1.map eNat) := asL_ok _
      have e4 : slcL true .sh (eLs eNat row1) (some ((row1.idxOf w : Nat) : Int)) none = .ok (eLs eNat (row1.drop (row1.idxOf w))) := by
        unfold eLs
        rw [slc_drop, List.map_drop]
      have e5 : slcL true .sh (eLs eNat row1) none (some ((row1.idxOf w : Nat) : Int)) = .ok (eLs eNat (row1.take (row1.idxOf w))) := by
        unfold eLs
        rw [slc_take, List.map_take]
      have rl : (row1.drop (row1.idxOf w)).length ≤ 1000000 := by rw [List.length_drop]; have := r1.len s; omega
      have rs : ∀ j ∈ row1.drop (row1.idxOf w), j < n := fun j hj => hlt j (r1.sub j (List.mem_of_mem_drop hj))
      have G : Grp n L cl F left (row1.drop (row1.idxOf w)) := by rw [← eg]; exact grp_first s cg.inj ne
      refine ⟨giveR n L F (row1.drop (row1.idxOf w)), cut left (row1.drop (row1.idxOf w)), row1.take (row1.idxOf w), ?_, ?_, ?_, .inr (by rw [eg]; exact ⟨rfl, rfl⟩)⟩
      · simp only [easl, ix, Res.bind_ok, toI_int, e4, e5, capK_ow, seq_ls rl]
        rw [lcR_m (h := fun j => eOp (B n L F j)) fun j hj => by
          have hj' := rs j hj
          have e6 : ixD (eLl n L) (eNat j) = .ok (eLs eNat (L j)) := ix_eLl hj'
          simp only [e6, Res.bind_ok, sp_bestF o hj', lcF_ok, if_true]]
        have e7 : seqL (.list ((row1.drop (row1.idxOf w)).map fun j => eOp (B n L F j))) = .ok ((row1.drop (row1.idxOf w)).map fun j => eOp (B n L F j)) := seqL_ok (by rw [sz, List.length_map]; omega)
        have e8 : zipD ((row1.drop (row1.idxOf w)).map eNat) ((row1.drop (row1.idxOf w)).map fun j => eOp (B n L F j)) = ((row1.drop (row1.idxOf w)).map fun k => (k, B n L F k)).map fun p => PyData.tuple [eNat p.1, eOp p.2] := by
          unfold zipD
          rw [List.zip_map', List.map_map, List.map_map]
          rfl
        simp only [Res.bind_ok, e7, e8]
        rw [forD_map (e := fun p : Nat × Option Nat => PyData.tuple [eNat p.1, eOp p.2]) (en := eF n) (g := fun G p => upd1 G p.1 p.2)]
        · rw [give_fold, Fl.seq_nx, filt_ls (p := fun j => !decide (j ∈ row1.drop (row1.idxOf w))) fun j hj => by
            have e9 : DL.ninL (eNat j) (eLs eNat (row1.drop (row1.idxOf w))) = .ok (!decide (j ∈ row1.drop (row1.idxOf w))) := encNat.ninL (by decide) j _
            rw [e9, lcF_ok]]
          rfl
        · rintro ⟨j, x⟩ G' hp'
          obtain ⟨j', hj', e9⟩ := List.mem_map.mp hp'
          cases e9
          simp only [unT2, Res.bind_ok, eNat, set_eF (rs j hj')]
      · exact chain_keep s cg.inj G r1 _ fun j hj hj2 => by
          obtain ⟨a, ha, rfl⟩ := List.mem_take_iff_getElem.mp hj
          obtain ⟨b, hb, e9⟩ := List.mem_iff_getElem.mp hj2
          rw [List.getElem_drop] at e9
          rw [List.length_drop] at hb
          have := nd_inj r1.nd (by omega) (by omega) e9
          omega
      · intro hne
        have hp' : 0 < row1.idxOf w := by
          rcases Nat.eq_zero_or_pos (row1.idxOf w) with z | z
          · rw [z] at hne; exact absurd rfl hne
          · exact z
        rw [hd _ hp' (by omega)]
        refine head_keep (by rw [r3]) ne ?_
        intro z
        have e6 : row1.headD 0 = row1[0]'(by omega) := by
          cases row1 with
          | nil => exact absurd rfl r2
          | cons x r => rfl
        rw [e6] at z
        obtain ⟨b, hb, e9⟩ := List.mem_iff_getElem.mp z
        rw [List.getElem_drop] at e9
        rw [List.length_drop] at hb
        have := nd_inj r1.nd (by omega) (by omega) e9
        omega
    · have c2 := r1.ext hk q hw
      have l2 := c2.len s
      refine ⟨F, left, row1 ++ [w], ?_, c2, fun _ => ?_, .inl ⟨rfl, rfl, by rw [List.length_append, List.length_singleton]; omega⟩⟩
      · have e4 : starL true .sh (eLs eNat row1) = .ok (row1.map eNat) := rfl
        have e5 : mkL (row1.map eNat ++ [.int (w : Int)]) = .ok (eLs eNat (row1 ++ [w])) := by
          rw [mkL_ok (by rw [List.length_append, List.length_map, sz]; simp at l2 ⊢; omega)]
          unfold eLs
          rw [List.map_append]
          rfl
        rw [decide_eq_false hw, if_neg Bool.false_ne_true]
        simp only [e4, e5, Res.bind_ok, capK_ow, Fl.seq_nx]
      · rw [r3]
        cases row1 with
        | nil => exact absurd rfl r2
        | cons x r => rfl
end
end K42

namespace K42
open PySem PySem.Spec L2 DL
open PyProof.Rows hiding St
section
variable {n t : Nat} {L : Nat → List Nat} {cl : Nat → Option Nat} {F : Nat → Option Nat} {left row g : List Nat}
/-- the first of a list, None behind it -/
theorem head_none (xs : List Nat) (hz : xs.length ≤ 1000) : (addL .ow .ow (.list (xs.map eNat)) (.list [.none]) >>= fun x => ixD x (.int 0)) = .ok (eOp xs.head?) := by
  have e : addL .ow .ow (.list (xs.map eNat)) (.list [.none]) = .ok (.list (xs.map eNat ++ [.none])) := by
    show (if _ then _ else _) = _
    rw [if_pos]
    simp only [itemsC, Bool.true_and, decide_eq_true_eq, List.length_map, List.length_singleton, sz]
    omega
  rw [e, Res.bind_ok]
  cases xs with
  | nil => exact ixD_0
  | cons x r => exact ixD_0
theorem sp_lbest (o : OkS n t L) {k : Nat} (hk : k < n) : m__law_best [eS n t L, eF n F, .int (k : Int)] = .ok (eOp (B n L F k)) := by
  have hl := o.len hk
  rw [m__law_best, rd3_eq, b__law_best]
  simp only [Res.bind_ok, ix0_eS, ix_eLl hk, seq_ls (show (L k).length ≤ 1000000 by omega)]
  rw [lcR_fm (p := fun x => !decide (some x ∈ tl n F)) (h := eNat) fun x hx => by
    have e : DL.ninL (eNat x) (eF n F) = .ok (!decide (some x ∈ tl n F)) := encOp.ninL (by decide) (some x) (tl n F)
    simp only [Res.bind_ok, e, lcF_ok]]
  have h := head_none ((L k).filter fun x => !decide (some x ∈ tl n F)) (Nat.le_trans (List.length_filter_le _ _) (by omega))
  simp only [Res.bind_ok, mkL1, h]
  rfl
/-- whom the law takes as the owner -/
theorem lowner (o : OkS n t L) {ord dn : List Nat} (hp : ord.Perm (List.range n)) (hl : left = cut ord dn) {k : Nat} :
    ((lcR (.ok (ord.map eNat)) (fun q35 => lcF (DL.ninL q35 (eLs eNat dn) >>= fun t49 => if t49 then ((ixD (eF n cl) q35 >>= fun x41 => eqD x41 (eOp (B n L F k))) >>= fun t48 => if t48 then (isntD (eOp (B n L F k)) .none >>= fun t47 => if t47 then neD q35 (.int (k : Int)) else .ok false) else .ok false) else .ok false) (.ok q35)) >>= fun x52 => addL .ow .ow x52 (.list [.none])) >>= fun x => ixD x (.int 0)) = .ok (eOp (nxt n L cl F left k)) := by
  have e0 : lcR (.ok (ord.map eNat)) (fun q35 => lcF (DL.ninL q35 (eLs eNat dn) >>= fun t49 => if t49 then ((ixD (eF n cl) q35 >>= fun x41 => eqD x41 (eOp (B n L F k))) >>= fun t48 => if t48 then (isntD (eOp (B n L F k)) .none >>= fun t47 => if t47 then neD q35 (.int (k : Int)) else .ok false) else .ok false) else .ok false) (.ok q35)) = .ok (.list ((ord.filter fun j => !decide (j ∈ dn) && owns n L cl F k j).map eNat)) := lcR_fm fun j hj => by
    have hj' : j < n := List.mem_range.mp (hp.mem_iff.mp hj)
    have e1 : ixD (eF n cl) (eNat j) = .ok (eOp (cl j)) := ix_eF hj'
    have e2 : isN (eOp (B n L F k)) = !(B n L F k).isSome := by cases B n L F k <;> rfl
    have e3 : neD (eNat j) (.int (k : Int)) = .ok (!decide (j = k)) := encNat.neD (by decide) j k
    have e4 : DL.ninL (eNat j) (eLs eNat dn) = .ok (!decide (j ∈ dn)) := encNat.ninL (by decide) j dn
    simp only [e1, e4, Res.bind_ok, isntD_none, e2, Bool.not_not, encOp.eqD (by decide), e3, owns]
    by_cases h0 : j ∈ dn
    · simp [h0, lcF_ok]
    · by_cases h2 : cl j = B n L F k
      · by_cases h1 : (B n L F k).isSome = true <;> by_cases h3 : j = k <;> simp [h0, h1, h2, h3, lcF_ok]
      · simp [h0, h2, lcF_ok]
  rw [e0, Res.bind_ok, head_none _ (Nat.le_trans (List.length_filter_le _ _) (by rw [hp.length_eq, List.length_range]; have := o.n2; omega))]
  unfold nxt
  rw [hl]
  unfold cut
  rw [List.filter_filter]
  congr 3
  apply List.filter_congr
  intro j _
  rw [Bool.and_comm]
/-- the inner walk of the law -/
theorem walk_law (s : St n L cl F left) {c : D × D → Res Bool} {f : D × D → Res (Fl (D × D) (D × D))}
    (hc : ∀ (h : Option Nat) (road : List Nat), c (eOp h, eLs eNat road) = .ok (match h with | none => false | some x => !decide (x ∈ road)))
    (hf : ∀ (x : Nat) (road : List Nat), x < n → road.length ≤ n → f (eOp (some x), eLs eNat road) = .ok (.nx (eOp (nxt n L cl F left x), eLs eNat (road ++ [x])))) :
    ∀ (N : Nat) (x : Nat) (road : List Nat), x < n → road.Nodup → (∀ k ∈ road, k < n) → n + 1 ≤ N + road.length → ∀ M, N < M →
      (whileD c f M (eOp (some x), eLs eNat road) : Res (Fl (D × D) (D × D))) = .ok (.nx (eOp (walk n L cl F left N road x).2, eLs eNat (walk n L cl F left N road x).1))
  | 0, x, road, hx, nd, lt, hN, _, _ => by
    have := nd_len nd lt
    omega
  | N + 1, x, road, hx, nd, lt, hN, 0, hM => by omega
  | N + 1, x, road, hx, nd, lt, hN, M + 1, hM => by
    rw [whileD, hc, Res.bind_ok]
    by_cases h : x ∈ road
    · simp only [h, decide_true, Bool.not_true, Bool.false_eq_true, if_false, walk, if_true]
    · have hl := nd_len nd lt
      simp only [h, decide_false, Bool.not_false, if_true, hf x road hx hl, Res.bind_ok, walk, if_false]
      show whileD c f M _ = _
      cases q : nxt n L cl F left x with
      | none =>
        cases M with
        | zero => omega
        | succ M =>
          rw [whileD, hc]
          rfl
      | some y =>
        have hy := s.lt y (nxt_some q).1
        exact walk_law s hc hf N y (road ++ [x]) hy (by
          rw [List.nodup_append]
          refine ⟨nd, by simp, fun a ha b hb e => ?_⟩
          rw [List.mem_singleton.mp hb] at e
          subst e
          exact h ha) (fun k hk => by
          rcases List.mem_append.mp hk with q | q
          · exact lt k q
          · rw [List.mem_singleton.mp q]; exact hx) (by rw [List.length_append, List.length_singleton]; omega) M (by omega)
end
end K42

namespace K42
open PySem PySem.Spec L2 DL
open PyProof.Rows hiding St
section
variable {n t : Nat} {L : Nat → List Nat} {cl : Nat → Option Nat} {F : Nat → Option Nat} {left row g : List Nat}
theorem walk_facts (s : St n L cl F left) : ∀ (N : Nat) (road : List Nat) (x : Nat), (0 < N ∨ road ≠ []) → x < n → (∀ k ∈ road, k < n) →
    ((walk n L cl F left N road x).2 = none → (walk n L cl F left N road x).1 ≠ []) ∧ (∀ h, (walk n L cl F left N road x).2 = some h → h ∈ (walk n L cl F left N road x).1) ∧ ∀ k ∈ (walk n L cl F left N road x).1, k < n
  | 0, road, x, h, hx, lt => by
    refine ⟨fun _ => ?_, fun _ e => (by cases e), lt⟩
    rcases h with h | h
    · omega
    · exact h
  | N + 1, road, x, h, hx, lt => by
    have lt2 : ∀ k ∈ road ++ [x], k < n := fun k hk => by
      rcases List.mem_append.mp hk with q | q
      · exact lt k q
      · rw [List.mem_singleton.mp q]; exact hx
    rw [walk]
    by_cases h1 : x ∈ road
    · rw [if_pos h1]
      refine ⟨fun e => (by cases e), fun y e => ?_, lt⟩
      cases e
      exact h1
    · rw [if_neg h1]
      cases q : nxt n L cl F left x with
      | none => exact ⟨fun _ => by simp, fun y e => (by cases e), lt2⟩
      | some y => exact walk_facts s N (road ++ [x]) y (.inr (by simp)) (s.lt y (nxt_some q).1) lt2
theorem cut_cut {ord dn : List Nat} : cut (cut ord dn) g = cut ord (dn ++ g) := by
  unfold cut
  rw [List.filter_filter]
  apply List.filter_congr
  intro j _
  by_cases h1 : j ∈ dn <;> by_cases h2 : j ∈ g <;> simp [h1, h2]
def en2 (n : Nat) (s : (Nat → Option Nat) × List Nat) : D × D := (eF n s.1, eLs eNat s.2)
theorem sp_lclaims (o : OkS n t L) (cg : Giv n L cl) {ord : List Nat} (hp : ord.Perm (List.range n)) {R : Nat → Option Nat} (hr : Runs n L cl (fun _ => none) ord R) : m__law_claims [eS n t L, eLs eNat ord, eF n cl] = .ok (eF n R) := by
  have n2 := o.n2
  have hl0 : ord.length = n := by rw [hp.length_eq, List.length_range]
  have hm : ∀ k, k ∈ ord ↔ k < n := fun k => by rw [hp.mem_iff, List.mem_range]
  have ndo : ord.Nodup := hp.nodup_iff.mpr List.nodup_range
  have c0 : cut ord [] = ord := List.filter_eq_self.mpr fun _ _ => by simp
  have fin : ∀ (c : D × D → Res Bool) (f : D × D → Res (Fl (D × D) (D × D))) (k : D × D → Res (Fl Unit Empty)),
      (∀ F dn, c (en2 n (F, dn)) = .ok (decide (((dn.length : Nat) : Int) < (n : Int)))) →
      (∀ F dn, St n L cl F (cut ord dn) → cut ord dn ≠ [] → dn.Nodup → (∀ k ∈ dn, k < n) → f (en2 n (F, dn)) = .ok (.nx (en2 n (giveR n L F (grp n L cl F (cut ord dn)), dn ++ grp n L cl F (cut ord dn))))) →
      (∀ s, k s = .ok (.rt s.1)) → fnR .ow (Fl.seq (whileD c f fuelN (eF n fun _ => none, .list [])) k) = .ok (eF n R) := fun c f k hc hf hk => by
    obtain ⟨⟨F', dn'⟩, e1, ⟨p1, p2, p3, p4⟩, e3⟩ := whileD_run (M := Empty) (c := c) (f := f) (en := en2 n) (fun s => St n L cl s.1 (cut ord s.2) ∧ s.2.Nodup ∧ (∀ k ∈ s.2, k < n) ∧ Runs n L cl s.1 (cut ord s.2) R)
      (fun s => (cut ord s.2).length) (fun ⟨F, dn⟩ ⟨h1, h2, h3, h4⟩ => by
        by_cases hlt : dn.length < n
        · have ne : cut ord dn ≠ [] := fun e => by
            have : ∀ k ∈ ord, k ∈ dn := fun k hk => by
              apply Classical.byContradiction
              intro z
              have : k ∈ cut ord dn := mem_cut.mpr ⟨hk, z⟩
              rw [e] at this
              cases this
            have h5 : (List.range n).length ≤ dn.length := by
              have := List.Nodup.length_le_of_subset (l₁ := List.range n) (l₂ := dn) List.nodup_range fun k hk => this k ((hm k).mpr (List.mem_range.mp hk))
              exact this
            rw [List.length_range] at h5
            omega
          have G := grp_first h1 cg.inj ne
          refine .inr ⟨by rw [hc, decide_eq_true (by omega)], _, hf F dn h1 ne h2 h3, ?_, ?_⟩
          · have h4' : Runs n L cl F (cut ord dn) R := h4
            refine ⟨?_, ?_, fun k hk => ?_, ?_⟩
            · show St n L cl _ (cut ord (dn ++ _))
              rw [← cut_cut]
              exact h1.give G
            · show (dn ++ _).Nodup
              rw [List.nodup_append]
              refine ⟨h2, G.nd, fun a ha b hb e => ?_⟩
              subst e
              exact (mem_cut.mp (G.sub a hb)).2 ha
            · rcases List.mem_append.mp hk with q | q
              · exact h3 k q
              · exact h1.lt k (G.sub k q)
            · show Runs n L cl _ (cut ord (dn ++ _)) R
              rw [← cut_cut]
              cases q : cut ord dn with
              | nil => exact absurd q ne
              | cons x r =>
                rw [q] at h4'
                cases h4' with
                | step _ h5 => exact h5
          · show (cut ord (dn ++ _)).length < (cut ord dn).length
            rw [← cut_cut]
            exact cut_len G
        · exact .inl (by rw [hc, decide_eq_false (by omega)])) fuelN (fun _ => none, []) ⟨by show St n L cl _ (cut ord []); rw [c0]; exact (start_ok cg hp).1, by simp, fun _ h => (by cases h), by show Runs n L cl _ (cut ord []) R; rw [c0]; exact hr⟩ (by
        show (cut ord []).length < fuelN
        rw [c0, hl0]
        unfold fuelN
        omega)
    have hge : ¬ dn'.length < n := by
      rw [hc] at e3
      have := Res.ok.inj e3
      rw [decide_eq_false_iff_not] at this
      omega
    have e0 : cut ord dn' = [] := by
      cases q : cut ord dn' with
      | nil => rfl
      | cons x r =>
        have hx : x ∈ cut ord dn' := by rw [q]; simp
        obtain ⟨x1, x2⟩ := mem_cut.mp hx
        have := nd_len (t := n) (xs := x :: dn') (List.nodup_cons.mpr ⟨x2, p2⟩) fun k hk => by
          rcases List.mem_cons.mp hk with e | e
          · rw [e]; exact (hm x).mp x1
          · exact p3 k e
        rw [List.length_cons] at this
        omega
    have eR : F' = R := by
      have p4' : Runs n L cl F' (cut ord dn') R := p4
      rw [e0] at p4'
      cases p4' with
      | nil => rfl
      | step h _ => exact absurd rfl h
    have e1' : (whileD c f fuelN (eF n fun _ => none, .list []) : Res (Fl (D × D) Empty)) = .ok (.nx (en2 n (F', dn'))) := e1
    rw [e1', Fl.seq_nx, hk, ← eR]
    rfl
  rw [m__law_claims, rd3_eq, b__law_claims]
  simp only [Res.bind_ok, mkL1, len_ls, hl0, rep_eF (show n ≤ 6 by omega), mkL0]
  refine fin _ _ _ (fun F dn => ?_) (fun F dn s ne nd lt => ?_) (fun s => rfl)
  · simp only [en2, len_ls, Res.bind_ok, ltI_int]
  have oz : ord.length ≤ 1000000 := by omega
  have G := grp_first s cg.inj ne
  obtain ⟨x, xr, ex⟩ : ∃ x xr, cut ord dn = x :: xr := by
    cases q : cut ord dn with
    | nil => exact absurd q ne
    | cons x r => exact ⟨x, r, rfl⟩
  have hx : x < n := s.lt x (by rw [ex]; simp)
  have hd : (cut ord dn).headD 0 = x := by rw [ex]; rfl
  have f0 : lcR (.ok (ord.map eNat)) (fun q11 => lcF (DL.ninL q11 (eLs eNat dn)) (.ok q11)) = .ok (eLs eNat (cut ord dn)) := filt_ls (p := fun j => !decide (j ∈ dn)) fun j hj => by
    have e9 : DL.ninL (eNat j) (eLs eNat dn) = .ok (!decide (j ∈ dn)) := encNat.ninL (by decide) j _
    rw [e9, lcF_ok]
  have f1 : ixD (eLs eNat (cut ord dn)) (.int 0) = .ok (eOp (some x)) := by rw [ex]; exact ixD_0
  have f2 : PyData.list [] = eLs eNat [] := rfl
  simp only [en2, seq_ls oz, Res.bind_ok, f0, f1, mkL0, mkL1]
  rw [f2, walk_law s ?hc ?hf (n + 1) x [] hx (by simp) (by simp) (by simp) fuelN (by unfold fuelN; omega)]
  case hc =>
    intro h road
    cases h with
    | none => simp only [eOp, isntD_none, isN_none', Bool.not_true, Res.bind_ok, Bool.false_eq_true, if_false]
    | some y =>
      have e2 : DL.ninL (.int (y : Int)) (eLs eNat road) = .ok (!decide (y ∈ road)) := encNat.ninL (by decide) y road
      simp only [eOp, isntD_none, isN_int, Bool.not_false, Res.bind_ok, if_true, e2]
  case hf =>
    intro y road hy hrl
    have e1 : appD (eLs eNat road) (eOp (some y)) = .ok (eLs eNat (road ++ [y])) := by
      unfold eLs
      rw [appD_ok _ (by rw [List.length_map, sz]; omega), List.map_append]
      rfl
    have e2 : m__law_best [eS n t L, eF n F, eOp (some y)] = .ok (eOp (B n L F y)) := sp_lbest o hy
    have e3 := lowner (F := F) (cl := cl) (left := cut ord dn) (k := y) o hp rfl
    simp only [Res.bind_ok, e1, e2]
    have e4 : eOp (some y) = .int (y : Int) := rfl
    rw [e4]
    rw [e3]
    rfl
  obtain ⟨w1, w2, w3⟩ := walk_facts s (n + 1) [] x (.inl (by omega)) hx (by simp)
  have gd : grp n L cl F (cut ord dn) = grpOf (walk n L cl F (cut ord dn) (n + 1) [] x) := by unfold grp; rw [hd]
  rw [gd] at G ⊢
  generalize walk n L cl F (cut ord dn) (n + 1) [] x = wk at *
  obtain ⟨road, e⟩ := wk
  simp only at w1 w2 w3
  cases e with
  | none =>
    have hne := w1 rfl
    obtain ⟨k, hk, hkm⟩ := last_of hne
    have hkn := w3 k hkm
    have eg : grpOf (road, (none : Option Nat)) = [k] := by
      show [road.getLastD 0] = [k]
      rw [List.getLastD_eq_getLast?, hk]
      rfl
    rw [eg] at G ⊢
    have ll := ls_last hk
    have e1 : m__law_best [eS n t L, eF n F, .int (k : Int)] = .ok (eOp (B n L F k)) := sp_lbest o hkn
    have dl := nd_len nd lt
    have e2 : appD (eLs eNat dn) (.int (k : Int)) = .ok (eLs eNat (dn ++ [k])) := by
      unfold eLs
      rw [appD_ok _ (by rw [List.length_map, sz]; omega), List.map_append]
      rfl
    have e3 : isN (eOp none) = true := rfl
    simp only [Fl.seq_nx, isD_none, e3, if_true, negI_int, ll, Res.bind_ok, e1, set_eF hkn, e2, give_one]
  | some h =>
    have hh := w2 h rfl
    have hj := List.idxOf_lt_length_of_mem hh
    have eg : grpOf (road, some h) = road.drop (road.idxOf h) := rfl
    rw [eg] at G ⊢
    have e3 : isN (eOp (some h)) = false := rfl
    have ix : indexL (road.map eNat) (eOp (some h)) = .ok (.int (road.idxOf h : Nat)) := encNat.index (by decide) hh
    have easl : asL (eLs eNat road) = .ok (road.map eNat) := asL_ok _
    have e4 : slcL true .sh (eLs eNat road) (some ((road.idxOf h : Nat) : Int)) none = .ok (eLs eNat (road.drop (road.idxOf h))) := by
      unfold eLs
      rw [slc_drop, List.map_drop]
    have gl := nd_len G.nd fun k hk => s.lt k (G.sub k hk)
    have dl := nd_len nd lt
    have rs : ∀ j ∈ road.drop (road.idxOf h), j < n := fun j hj => s.lt j (G.sub j hj)
    simp only [Fl.seq_nx, isD_none, e3, Bool.false_eq_true, if_false, easl, ix, Res.bind_ok, toI_int, e4, capK_ow]
    generalize road.drop (road.idxOf h) = ring at *
    rw [seq_ls (show ring.length ≤ 1000000 by omega), lcR_m (h := fun j => eOp (B n L F j)) fun j hj => by
      have e5 : m__law_best [eS n t L, eF n F, eNat j] = .ok (eOp (B n L F j)) := sp_lbest o (rs j hj)
      simp only [Res.bind_ok, e5, lcF_ok, if_true]]
    have e6 : addL .sh .sh (eLs eNat dn) (eLs eNat ring) = .ok (eLs eNat (dn ++ ring)) := by
      unfold eLs
      rw [List.map_append]
      show (if _ then _ else _) = _
      rw [if_pos]
      simp only [itemsC, Bool.true_and, decide_eq_true_eq, List.length_map, sz]
      omega
    simp only [Res.bind_ok, len_ls, rngL_ok (show ring.length ≤ 1000000 by omega)]
    rw [forD_map (e := fun i : Nat => PyData.int (i : Nat)) (en := eF n) (g := fun G i => upd1 G (ring.getD i 0) (B n L F (ring.getD i 0)))]
    · have er : (List.range ring.length).map (fun i => ring.getD i 0) = ring := by
        apply List.ext_getElem?
        intro i
        by_cases hi : i < ring.length
        · simp [List.getElem?_range hi, List.getD_eq_getElem?_getD, List.getElem?_eq_getElem hi]
        · simp [hi]
      have ef : (List.range ring.length).foldl (fun G i => upd1 G (ring.getD i 0) (B n L F (ring.getD i 0))) F = giveR n L F ring := by
        have e7 := give_fold (n := n) (L := L) F ring F
        rw [List.foldl_map] at e7
        have e8 : (List.range ring.length).foldl (fun G i => upd1 G (ring.getD i 0) (B n L F (ring.getD i 0))) F = ((List.range ring.length).map (fun i => ring.getD i 0)).foldl (fun G k => upd1 G k (B n L F k)) F := by rw [List.foldl_map]
        rw [e8, er]
        exact e7
      rw [ef]
      simp only [Fl.seq_nx, e6, Res.bind_ok]
    · intro i G' hi
      have hi' : i < ring.length := List.mem_range.mp hi
      have e7 : ring.getD i 0 = ring[i] := by rw [List.getD_eq_getElem?_getD, List.getElem?_eq_getElem hi']; rfl
      have e8 : ixD (.list (ring.map fun j => eOp (B n L F j))) (.int (i : Int)) = .ok (eOp (B n L F ring[i])) := ixD_map (f := fun j => eOp (B n L F j)) (List.getElem?_eq_getElem hi')
      have e9 : ixD (eLs eNat ring) (.int (i : Int)) = .ok (.int ((ring[i] : Nat) : Int)) := ixD_map (f := eNat) (List.getElem?_eq_getElem hi')
      have e10 : ring[i] < n := rs _ (List.getElem_mem _)
      simp only [e8, e9, Res.bind_ok, set_eF e10, e7]
end
end K42

namespace K42
open PySem PySem.Spec L2 DL
open PyProof.Rows hiding St
section
variable {n t : Nat} {L : Nat → List Nat} {cl : Nat → Option Nat} {F R : Nat → Option Nat} {left row g : List Nat}
theorem place_inj {wish : List Nat} {x y : Option Nat} (hx : ∀ a, x = some a → a ∈ wish) (hy : ∀ a, y = some a → a ∈ wish) (h : place wish x = place wish y) : x = y := by
  cases x with
  | none =>
    cases y with
    | none => rfl
    | some b =>
      have := List.idxOf_lt_length_of_mem (hy b rfl)
      simp only [place] at h
      omega
  | some a =>
    have ha := List.idxOf_lt_length_of_mem (hx a rfl)
    cases y with
    | none =>
      simp only [place] at h
      omega
    | some b =>
      have hb := List.idxOf_lt_length_of_mem (hy b rfl)
      simp only [place] at h
      have e1 : wish[wish.idxOf a]'ha = a := List.getElem_idxOf ha
      have e2 : wish[wish.idxOf b]'hb = b := List.getElem_idxOf hb
      rw [← e1, ← e2]
      congr 2
/-- no giving is better for all -/
theorem pareto (d : Done n L cl R) {H : Nat → Option Nat} (gh : Giv n L H) (h : ∀ k, k < n → place (L k) (H k) ≤ place (L k) (R k)) : ∀ k, k < n → R k = H k := by
  obtain ⟨seq, q1, q2, q3⟩ := d.seq
  have key : ∀ m i, i ≤ m → (hi : i < seq.length) → R seq[i] = H seq[i] := fun m => by
    induction m with
    | zero =>
      intro i him hi
      have hk := (q2 seq[i]).mp (List.getElem_mem _)
      refine place_inj (d.gv.inL _ hk) (gh.inL _ hk) (Nat.le_antisymm ?_ (h _ hk))
      rw [q3.best i hi]
      refine bl_place fun y hy => ⟨gh.inL _ hk y hy, fun z => ?_⟩
      have e : i = 0 := by omega
      subst e
      simp at z
    | succ m ih =>
      intro i him hi
      have hk := (q2 seq[i]).mp (List.getElem_mem _)
      refine place_inj (d.gv.inL _ hk) (gh.inL _ hk) (Nat.le_antisymm ?_ (h _ hk))
      rw [q3.best i hi]
      refine bl_place fun y hy => ⟨gh.inL _ hk y hy, fun z => ?_⟩
      obtain ⟨j, hj, e⟩ := List.mem_map.mp z
      obtain ⟨a, ha, rfl⟩ := List.mem_take_iff_getElem.mp hj
      have e2 := ih a (by omega) (by omega)
      rw [e] at e2
      have e3 := gh.inj _ _ hk ((q2 _).mp (List.getElem_mem (show a < seq.length by omega))) y hy e2.symm
      have := nd_inj q1 hi (by omega) e3
      omega
  intro k hk
  obtain ⟨i, hi, e⟩ := List.mem_iff_getElem.mp ((q2 k).mpr hk)
  rw [← e]
  exact key i i (Nat.le_refl _) hi
/-- without claims: by turns -/
theorem runs_turns : ∀ (left : List Nat) (F R : Nat → Option Nat), left.Nodup → Runs n L (fun _ => none) F left R → R = left.foldl (turn n L) F
  | [], F, R, _, h => by
    cases h with
    | nil => rfl
    | step h _ => exact absurd rfl h
  | k :: r, F, R, nd, h => by
    cases h with
    | step _ h =>
      have hn : nxt n L (fun _ => none) F (k :: r) k = none := by
        unfold nxt
        rw [List.head?_eq_none_iff, List.filter_eq_nil_iff]
        intro o _
        simp [owns]
      have eg : grp n L (fun _ => none) F (k :: r) = [k] := by
        unfold grp
        show grpOf (walk n L (fun _ => none) F (k :: r) (n + 1) [] k) = [k]
        rw [walk, if_neg (by simp), hn]
        rfl
      rw [eg] at h
      have ec : List.filter (fun o => !decide (o ∈ [k])) (k :: r) = r := by
        rw [List.nodup_cons] at nd
        rw [List.filter_cons, if_neg (by simp), List.filter_eq_self]
        intro o ho
        have : o ≠ k := fun e => nd.1 (e ▸ ho)
        simp [this]
      rw [ec] at h
      have := runs_turns r _ R (List.nodup_cons.mp nd).2 h
      rw [this, List.foldl_cons]
      unfold turn
      rw [give_one]
end
end K42

namespace K42
open PySem PySem.Spec L2 DL
open PyProof.Rows hiding St
section
variable {n t : Nat} {L : Nat → List Nat} {cl : Nat → Option Nat} {F R : Nat → Option Nat} {left row g : List Nat}
theorem sp_place {wish : List Nat} {x : Option Nat} (h : ∀ a, x = some a → a ∈ wish) : m__law_place [eLs eNat wish, eOp x] = .ok (.int (place wish x : Nat)) := by
  rw [m__law_place, rd2_eq, b__law_place]
  cases x with
  | none =>
    simp only [eOp, Res.bind_ok, isD_none, isN_none', if_true, len_ls, Fl.seq_rt]
    rfl
  | some a =>
    have e1 : asL (eLs eNat wish) = .ok (wish.map eNat) := asL_ok _
    have e2 : indexL (wish.map eNat) (.int (a : Int)) = .ok (.int (wish.idxOf a : Nat)) := encNat.index (by decide) (h a rfl)
    simp only [eOp, Res.bind_ok, isD_none, isN_int, Bool.false_eq_true, if_false, e1, e2]
    rfl
theorem sp_givings (o : OkS n t L) (gr : Giv n L R) : m_check_givings [eS n t L, .list [eF n R]] = .ok .none := by
  have e1 : seqL (.list [eF n R]) = .ok [eF n R] := seqL_ok (by rw [sz]; simp)
  rw [m_check_givings, rd2_eq, b_check_givings]
  simp only [Res.bind_ok, sp_seekers o, e1]
  rw [forD_unit]
  · rfl
  intro d hd
  have e2 : enumD [eF n R] = [.tuple [.int 0, eF n R]] := rfl
  rw [e2, List.mem_singleton] at hd
  subst hd
  simp only [unT2, Res.bind_ok, sp_giving o gr, toB_bool, Bool.not_true, Bool.false_eq_true, if_false]
/-- the turn-by-turn test finds that nothing is better -/
structure Tk (n : Nat) (R : Nat → Option Nat) (left : List Nat) (tk : List (Option Nat)) : Prop where
  lt : ∀ k ∈ left, k < n
  z : tk.length + left.length ≤ n
  tk : ∀ x, some x ∈ tk ↔ ∃ k, k < n ∧ k ∉ left ∧ R k = some x
theorem good_one (d : Done n L cl R) {tk : List (Option Nat)} (h : Tk n R left tk) (ne : left ≠ []) : (left.filter fun k => decide (R k = bl (L k) tk)) ≠ [] := by
  obtain ⟨seq, q1, q2, q3⟩ := d.seq
  -- the first in the order who is left
  obtain ⟨x, hx⟩ := List.exists_mem_of_ne_nil left ne
  have hex : ∃ i, i < seq.length ∧ seq.getD i 0 ∈ left := by
    obtain ⟨i, hi, e⟩ := List.mem_iff_getElem.mp ((q2 x).mpr (h.lt x hx))
    exact ⟨i, hi, by rw [List.getD_eq_getElem?_getD, List.getElem?_eq_getElem hi]; show seq[i] ∈ left; rw [e]; exact hx⟩
  have low : ∃ i, i < seq.length ∧ seq.getD i 0 ∈ left ∧ ∀ j, j < i → seq.getD j 0 ∉ left := by
    obtain ⟨i, hi, hm⟩ := hex
    have key : ∀ m i, i ≤ m → i < seq.length → seq.getD i 0 ∈ left → ∃ i, i < seq.length ∧ seq.getD i 0 ∈ left ∧ ∀ j, j < i → seq.getD j 0 ∉ left := fun m => by
      induction m with
      | zero => intro i him hi hm; exact ⟨i, hi, hm, fun j hj => by omega⟩
      | succ m ih =>
        intro i him hi hm
        by_cases c : ∃ j, j < i ∧ seq.getD j 0 ∈ left
        · obtain ⟨j, hj, hjm⟩ := c
          exact ih j (by omega) (by omega) hjm
        · exact ⟨i, hi, hm, fun j hj z => c ⟨j, hj, z⟩⟩
    exact key i i (Nat.le_refl _) hi hm
  obtain ⟨i, hi, hm, hlow⟩ := low
  have ge : ∀ j (hj : j < seq.length), seq.getD j 0 = seq[j] := fun j hj => by rw [List.getD_eq_getElem?_getD, List.getElem?_eq_getElem hj]; rfl
  rw [ge i hi] at hm
  have hk := (q2 seq[i]).mp (List.getElem_mem _)
  have hb : bl (L seq[i]) tk = R seq[i] := by
    rw [q3.best i hi]
    refine bl_same (fun y _ hy => ?_) fun y hy hc => ?_
    · obtain ⟨j, hj, e⟩ := List.mem_map.mp hy
      obtain ⟨a, ha, rfl⟩ := List.mem_take_iff_getElem.mp hj
      refine (h.tk y).mpr ⟨seq[a], (q2 _).mp (List.getElem_mem _), ?_, e⟩
      have := hlow a (by omega)
      rw [ge a (by omega)] at this
      exact this
    · obtain ⟨k, hk2, hn, e⟩ := (h.tk y).mp hc
      have e2 : R seq[i] = some y := by rw [q3.best i hi]; exact hy
      have := d.gv.inj _ _ hk hk2 y e2 e
      rw [← this] at hn
      exact hn hm
  intro z
  have : seq[i] ∈ left.filter fun k => decide (R k = bl (L k) tk) := List.mem_filter.mpr ⟨hm, by rw [hb]; simp⟩
  rw [z] at this
  cases this
theorem sp_pareto (o : OkS n t L) (d : Done n L cl R) : m_is_pareto_giving [eS n t L, eF n R] = .ok (.bool true) := by
  have n2 := o.n2
  rw [m_is_pareto_giving, rd2_eq, b_is_pareto_giving]
  simp only [Res.bind_ok, mkL1, capK_ow, sp_givings o d.gv, len_eF, lrng (show n ≤ 1000000 by omega), mkL0]
  have fin : ∀ (c : D × D → Res Bool) (f : D × D → Res (Fl (D × D) (D × D))) (k : D × D → Res (Fl Unit Empty)),
      (∀ left tk, c (eLs eNat left, eLs eOp tk) = .ok (decide ((0 : Int) < ((left.length : Nat) : Int)))) →
      (∀ left tk, Tk n R left tk → left ≠ [] → ∃ x, x ∈ left ∧ f (eLs eNat left, eLs eOp tk) = .ok (.nx (eLs eNat (left.filter fun j => !decide (j = x)), eLs eOp (tk ++ [R x])))) →
      (∀ s, k s = .ok (.rt (.bool true))) → fnR .sh (Fl.seq (whileD c f fuelN (.list ((List.range n).map eNat), .list [])) k) = .ok (.bool true) := fun c f k hc hf hk => by
    obtain ⟨s', e1, _, _⟩ := whileD_run (M := Empty) (c := c) (f := f) (en := fun s : List Nat × List (Option Nat) => (eLs eNat s.1, eLs eOp s.2)) (fun s => Tk n R s.1 s.2) (fun s => s.1.length) (fun ⟨left, tk⟩ h => by
      by_cases ne : left = []
      · refine .inl ?_
        show c (eLs eNat left, eLs eOp tk) = _
        rw [hc, ne]
        rfl
      · obtain ⟨x, hx, e⟩ := hf left tk h ne
        have hlt : (left.filter fun j => !decide (j = x)).length < left.length := by
          refine Nat.lt_of_le_of_ne (List.length_filter_le _ _) fun e => ?_
          have := List.length_filter_eq_length_iff.mp e x hx
          simp at this
        refine .inr ⟨?_, (left.filter fun j => !decide (j = x), tk ++ [R x]), e, ⟨fun k hk => h.lt k (List.mem_filter.mp hk).1, ?_, fun y => ?_⟩, hlt⟩
        · show c (eLs eNat left, eLs eOp tk) = _
          rw [hc, decide_eq_true]
          have := List.length_pos_iff.mpr ne
          omega
        · have h3 : tk.length + left.length ≤ n := h.z
          show (tk ++ [R x]).length + (left.filter fun j => !decide (j = x)).length ≤ n
          rw [List.length_append, List.length_singleton]
          omega
        · rw [List.mem_append, List.mem_singleton, h.tk]
          constructor
          · rintro (⟨k, h1, h2, h3⟩ | h1)
            · exact ⟨k, h1, fun z => h2 (List.mem_filter.mp z).1, h3⟩
            · exact ⟨x, h.lt x hx, by simp, h1.symm⟩
          · rintro ⟨k, h1, h2, h3⟩
            by_cases q : k = x
            · subst q; exact .inr h3.symm
            · refine .inl ⟨k, h1, fun z => h2 (List.mem_filter.mpr ⟨z, by simp [q]⟩), h3⟩) fuelN (List.range n, []) ⟨fun k hk => List.mem_range.mp hk, by simp, fun y => ⟨fun z => by simp at z, fun ⟨k, h1, h2, _⟩ => absurd (List.mem_range.mpr h1) h2⟩⟩ (by
      show (List.range n).length < fuelN
      rw [List.length_range]
      unfold fuelN
      omega)
    have e1' : (whileD c f fuelN (.list ((List.range n).map eNat), .list []) : Res (Fl (D × D) Empty)) = .ok (.nx (eLs eNat s'.1, eLs eOp s'.2)) := e1
    rw [e1', Fl.seq_nx, hk]
    rfl
  refine fin _ _ _ (fun left tk => ?_) (fun left tk h ne => ?_) (fun s => rfl)
  · simp only [len_ls, Res.bind_ok, gtI_int]
  have llen : left.length ≤ 1000000 := by have h3 : tk.length + left.length ≤ n := h.z; omega
  obtain ⟨x, gs, hg⟩ := List.exists_cons_of_ne_nil (good_one d h ne)
  have hx : x ∈ left.filter fun k => decide (R k = bl (L k) tk) := by rw [hg]; exact List.mem_cons_self
  have hxl := (List.mem_filter.mp hx).1
  refine ⟨x, hxl, ?_⟩
  simp only [Res.bind_ok, seq_ls llen, ix0_eS]
  rw [lcR_fm (p := fun k => decide (R k = bl (L k) tk)) (h := eNat) fun k hk => by
    have hk' := h.lt k hk
    have e0 : ixD (eLl n L) (eNat k) = .ok (eLs eNat (L k)) := ix_eLl hk'
    have e1 : ixD (eF n R) (eNat k) = .ok (eOp (R k)) := ix_eF hk'
    have e2 : eqD (eOp (R k)) (eOp (bl (L k) tk)) = .ok (decide (R k = bl (L k) tk)) := encOp.eqD (by decide) _ _
    simp only [Res.bind_ok, e0, e1, sp_best (L k) (by have := o.len hk'; omega) tk, e2, lcF_ok], hg]
  have e3 : PyData.list ((x :: gs).map eNat) = eLs eNat (x :: gs) := rfl
  have e4 : ixD (eLs eNat (x :: gs)) (.int 0) = .ok (eNat x) := ixD_t0
  have e5 : ixD (eF n R) (eNat x) = .ok (eOp (R x)) := ix_eF (h.lt x hxl)
  have e6 : starL true .sh (eLs eOp tk) = .ok (tk.map eOp) := rfl
  have e7 : eqD (.int (((x :: gs).length : Nat) : Int)) (.int 0) = .ok false := by
    have := encInt.eqD (by decide) (((x :: gs).length : Nat) : Int) 0
    rw [decide_eq_false (by simp; omega)] at this
    exact this
  simp only [Res.bind_ok, e3, capK_ow, len_ls, e4, e5, e6, e7, Bool.false_eq_true, if_false, mkL1]
  rw [lcR_fm (p := fun j => !decide (j = x)) (h := eNat) fun j _ => by
    have e2 : neD (eNat j) (eNat x) = .ok (!decide (j = x)) := encNat.neD (by decide) j x
    simp only [Res.bind_ok, e2, lcF_ok]]
  have e8 : mkL (tk.map eOp ++ [eOp (R x)]) = .ok (eLs eOp (tk ++ [R x])) := by
    have h3 : tk.length + left.length ≤ n := h.z
    rw [mkL_ok (by rw [List.length_append, List.length_map, sz]; simp; omega), eLs, List.map_append]; rfl
  simp only [Res.bind_ok, e8, capK_ow]
  rfl
end
end K42

namespace K42
open PySem PySem.Spec L2 DL
open PyProof.Rows hiding St
/-! ### the law's own orders, seekers, givings -/
theorem addL_ls {α : Type} {f : α → D} {a b : Kd} {xs ys : List α} (h : xs.length + ys.length ≤ 1000000) (ha : ∀ l, itemsC a l = true := by exact fun _ => rfl) (hb : ∀ l, itemsC b l = true := by exact fun _ => rfl) : addL a b (eLs f xs) (eLs f ys) = .ok (.list ((xs ++ ys).map f)) := by
  show (if itemsC a (xs.map f) && itemsC b (ys.map f) && decide ((xs.map f).length + (ys.map f).length ≤ sizeLine) then Res.ok (PyData.list (xs.map f ++ ys.map f)) else .stuck) = _
  rw [if_pos, List.map_append]
  simp only [ha, hb, Bool.true_and, decide_eq_true_eq, List.length_map, sz]
  omega
theorem perm_cut {α : Type} {xs : List α} {r : Nat} (h : r < xs.length) : xs.Perm (xs[r] :: (xs.take r ++ xs.drop (r + 1))) := by
  have e : xs = xs.take r ++ (xs[r] :: xs.drop (r + 1)) := by rw [← List.drop_eq_getElem_cons h, List.take_append_drop]
  exact (List.Perm.of_eq e).trans List.perm_middle
theorem sp_lorder {ds : List Int} (hz : ds.length ≤ 10000) {first : Int} (hf : 0 ≤ first) {n : Nat} (hn : n ≤ 1000) : ∃ o : List Nat, o.Perm (List.range n) ∧ m__law_order [eZ ds, .int first, .int (n : Int)] = .ok (eLs eNat o) := by
  rw [m__law_order, rd3_eq, b__law_order]
  simp only [Res.bind_ok, lrng (show n ≤ 1000000 by omega), mkL0, capK_ow]
  have fin : ∀ (c : D × D → Res Bool) (f : D × D → Res (Fl (D × D) (D × D))) (k : D × D → Res (Fl Unit Empty)),
      (∀ left told : List Nat, c (eLs eNat left, eLs eNat told) = .ok (decide (left ≠ []))) →
      (∀ left told : List Nat, (told ++ left).length = n → left ≠ [] → ∃ r, ∃ h : r < left.length, f (eLs eNat left, eLs eNat told) = .ok (.nx (eLs eNat (left.take r ++ left.drop (r + 1)), eLs eNat (told ++ [left[r]])))) →
      (∀ s, k s = .ok (.rt s.2)) → ∃ o : List Nat, o.Perm (List.range n) ∧ fnR .ow (Fl.seq (whileD c f fuelN (.list ((List.range n).map eNat), .list [])) k) = .ok (eLs eNat o) := fun c f k hc hf hk => by
    obtain ⟨s', e1, p1, c1⟩ := whileD_run (M := Empty) (c := c) (f := f) (en := fun s : List Nat × List Nat => (eLs eNat s.1, eLs eNat s.2)) (fun s => (s.2 ++ s.1).Perm (List.range n)) (fun s => s.1.length) (fun ⟨left, told⟩ h => by
      by_cases ne : left = []
      · refine .inl ?_
        show c (eLs eNat left, eLs eNat told) = _
        rw [hc, ne]
        rfl
      · obtain ⟨r, hr, e⟩ := hf left told (by have := h.length_eq; rw [List.length_range] at this; exact this) ne
        refine .inr ⟨?_, (left.take r ++ left.drop (r + 1), told ++ [left[r]]), e, ?_, ?_⟩
        · show c (eLs eNat left, eLs eNat told) = _
          rw [hc, decide_eq_true ne]
        · show ((told ++ [left[r]]) ++ (left.take r ++ left.drop (r + 1))).Perm (List.range n)
          rw [List.append_assoc]
          exact ((perm_cut hr).symm.append_left told).trans h
        · show (left.take r ++ left.drop (r + 1)).length < left.length
          rw [List.length_append, List.length_take, List.length_drop]
          omega) fuelN (List.range n, []) (List.Perm.refl _) (by
      show (List.range n).length < fuelN
      rw [List.length_range]
      unfold fuelN
      omega)
    have e1' : (whileD c f fuelN (.list ((List.range n).map eNat), .list []) : Res (Fl (D × D) Empty)) = .ok (.nx (eLs eNat s'.1, eLs eNat s'.2)) := e1
    have c2 : c (eLs eNat s'.1, eLs eNat s'.2) = .ok false := c1
    rw [hc] at c2
    have c3 : s'.1 = [] := by
      have := Res.ok.inj c2
      simpa using this
    refine ⟨s'.2, by rw [c3, List.append_nil] at p1; exact p1, ?_⟩
    rw [e1', Fl.seq_nx, hk]
    rfl
  refine fin _ _ _ (fun left told => ?_) (fun left told h ne => ?_) (fun s => rfl)
  · have e : neD (eLs eNat left) (eLs eNat []) = .ok (!decide (left = [])) := encNat.ls.neD (by decide) left []
    have e2 : (PyData.list [] : D) = eLs eNat [] := rfl
    simp only [Res.bind_ok, e2, e]
    simp
  have hl := List.length_pos_iff.mpr ne
  rw [List.length_append] at h
  obtain ⟨m1, m2, m3⟩ := mix_ok hz (k := first + (told.length : Int)) (many := (left.length : Int)) (by omega) (by omega)
  obtain ⟨r, er⟩ : ∃ r : Nat, mixI ds (first + (told.length : Int)) (left.length : Int) = (r : Int) := ⟨_, (Int.toNat_of_nonneg m2).symm⟩
  rw [er] at m1 m3
  have hr : r < left.length := by omega
  refine ⟨r, hr, ?_⟩
  have e1 : ixD (eLs eNat left) (.int (r : Int)) = .ok (eNat left[r]) := ixD_map (List.getElem?_eq_getElem hr)
  have e2 : appD (eLs eNat told) (eNat left[r]) = .ok (eLs eNat (told ++ [left[r]])) := by
    rw [eLs, appD_ok _ (by rw [List.length_map, sz]; omega), eLs, List.map_append]; rfl
  have e3 : slcL true .sh (eLs eNat left) none (some (r : Int)) = .ok (eLs eNat (left.take r)) := by rw [eLs, slc_take, ← List.map_take]; rfl
  have e4 : slcL true .sh (eLs eNat left) (some ((r : Int) + 1)) none = .ok (eLs eNat (left.drop (r + 1))) := by rw [eLs, show (r : Int) + 1 = ((r + 1 : Nat) : Int) by omega, slc_drop, ← List.map_drop]; rfl
  simp only [Res.bind_ok, len_ls, addI_int, m1, e1, e2, toI_int, e3, e4]
  rw [addL_ls (by rw [List.length_take, List.length_drop]; omega)]
  rfl
end K42

namespace K42
open PySem PySem.Spec L2 DL
open PyProof.Rows hiding St
/-! ### every giving -/
def srt (xs : List Nat) : List Nat := xs.mergeSort fun a b => decide (a ≤ b)
def exts (S : List Nat) (g : List (Option Nat)) : List (List (Option Nat)) := ((S.filter fun x => !decide (some x ∈ g)).map fun x => g ++ [some x]) ++ [g ++ [none]]
def allG (L : Nat → List Nat) : Nat → List (List (Option Nat))
  | 0 => [[]]
  | k + 1 => (allG L k).flatMap (exts (srt (L k)))
theorem mem_exts {S : List Nat} {g h : List (Option Nat)} : h ∈ exts S g ↔ ∃ y, h = g ++ [y] ∧ ∀ x, y = some x → x ∈ S ∧ some x ∉ g := by
  unfold exts
  rw [List.mem_append, List.mem_singleton, List.mem_map]
  constructor
  · rintro (⟨x, hx, rfl⟩ | rfl)
    · obtain ⟨h1, h2⟩ := List.mem_filter.mp hx
      refine ⟨some x, rfl, fun y e => ?_⟩
      cases e
      exact ⟨h1, by simpa using h2⟩
    · exact ⟨none, rfl, fun y e => by cases e⟩
  · rintro ⟨y, rfl, hy⟩
    cases y with
    | none => exact .inr rfl
    | some x => exact .inl ⟨x, List.mem_filter.mpr ⟨(hy x rfl).1, by simpa using (hy x rfl).2⟩, rfl⟩
theorem tl_succ (k : Nat) (F : Nat → Option Nat) : tl (k + 1) F = tl k F ++ [F k] := by
  unfold tl
  rw [List.range_succ, List.map_append]
  rfl
theorem mem_tl' {k : Nat} {F : Nat → Option Nat} {y : Option Nat} : y ∈ tl k F ↔ ∃ j, j < k ∧ F j = y := by
  unfold tl
  rw [List.mem_map]
  exact ⟨fun ⟨j, h1, h2⟩ => ⟨j, List.mem_range.mp h1, h2⟩, fun ⟨j, h1, h2⟩ => ⟨j, List.mem_range.mpr h1, h2⟩⟩
theorem mem_srt {xs : List Nat} {x : Nat} : x ∈ srt xs ↔ x ∈ xs := (List.mergeSort_perm _ _).mem_iff
theorem mem_allG (L : Nat → List Nat) : ∀ (k : Nat) (g : List (Option Nat)), g ∈ allG L k ↔ ∃ F, g = tl k F ∧ Giv k L F
  | 0, g => by
    rw [allG, List.mem_singleton]
    exact ⟨fun e => ⟨fun _ => none, e, ⟨fun _ h => absurd h (Nat.not_lt_zero _), fun _ _ h => absurd h (Nat.not_lt_zero _)⟩⟩, fun ⟨F, e, _⟩ => e⟩
  | k + 1, g => by
    rw [allG, List.mem_flatMap]
    constructor
    · rintro ⟨g0, h0, h1⟩
      obtain ⟨F0, rfl, gv⟩ := (mem_allG L k g0).mp h0
      obtain ⟨y, rfl, hy⟩ := mem_exts.mp h1
      refine ⟨upd1 F0 k y, ?_, ⟨fun j hj x e => ?_, fun i j hi hj x e1 e2 => ?_⟩⟩
      · rw [tl_succ]
        have e1 : upd1 F0 k y k = y := if_pos rfl
        have e2 : tl k (upd1 F0 k y) = tl k F0 := List.map_congr_left fun j hj => if_neg (by have := List.mem_range.mp hj; omega)
        rw [e1, e2]
      · unfold upd1 at e
        by_cases q : j = k
        · rw [if_pos q] at e
          rw [q]
          exact mem_srt.mp (hy x e).1
        · rw [if_neg q] at e
          exact gv.inL j (by omega) x e
      · unfold upd1 at e1 e2
        by_cases q : i = k
        · by_cases q2 : j = k
          · omega
          · rw [if_pos q] at e1
            rw [if_neg q2] at e2
            exact absurd (mem_tl'.mpr ⟨j, by omega, e2⟩) (hy x e1).2
        · by_cases q2 : j = k
          · rw [if_neg q] at e1
            rw [if_pos q2] at e2
            exact absurd (mem_tl'.mpr ⟨i, by omega, e1⟩) (hy x e2).2
          · rw [if_neg q] at e1
            rw [if_neg q2] at e2
            exact gv.inj i j (by omega) (by omega) x e1 e2
    · rintro ⟨F, rfl, gv⟩
      refine ⟨tl k F, (mem_allG L k _).mpr ⟨F, rfl, ⟨fun j hj => gv.inL j (by omega), fun i j hi hj => gv.inj i j (by omega) (by omega)⟩⟩, mem_exts.mpr ⟨F k, tl_succ k F, fun x e => ⟨mem_srt.mpr (gv.inL k (by omega) x e), fun hc => ?_⟩⟩⟩
      obtain ⟨j, hj, ej⟩ := mem_tl'.mp hc
      have := gv.inj j k (by omega) (by omega) x ej e
      omega
theorem exts_len {S : List Nat} {g : List (Option Nat)} (h : S.length ≤ 4) : (exts S g).length ≤ 5 := by
  unfold exts
  rw [List.length_append, List.length_map, List.length_singleton]
  have := List.length_filter_le (fun x => !decide (some x ∈ g)) S
  omega
theorem flat_len {α β : Type} {f : α → List β} {m : Nat} : ∀ {xs : List α}, (∀ x ∈ xs, (f x).length ≤ m) → (xs.flatMap f).length ≤ m * xs.length
  | [], _ => by simp
  | x :: r, h => by
    rw [List.flatMap_cons, List.length_append, List.length_cons]
    have h1 := h x (by simp)
    have h2 := flat_len (xs := r) fun y hy => h y (List.mem_cons_of_mem _ hy)
    rw [Nat.mul_succ]
    omega
theorem srt_len (xs : List Nat) : (srt xs).length = xs.length := (List.mergeSort_perm _ _).length_eq
theorem allG_len {n t : Nat} {L : Nat → List Nat} (o : OkS n t L) : ∀ k, k ≤ n → (allG L k).length ≤ 5 ^ k
  | 0, _ => by simp [allG]
  | k + 1, h => by
    rw [allG]
    have h1 := flat_len (f := exts (srt (L k))) (m := 5) (xs := allG L k) fun x _ => exts_len (by rw [srt_len]; exact o.len (by omega))
    have h2 := allG_len o k (by omega)
    rw [Nat.pow_succ]
    omega
theorem allG_lt {n t : Nat} {L : Nat → List Nat} (o : OkS n t L) {k : Nat} (h : k ≤ n) : (allG L k).length ≤ 3125 := by
  have h1 := allG_len o k h
  have h2 : 5 ^ k ≤ 5 ^ 5 := Nat.pow_le_pow_right (by omega) (by have := o.n2; omega)
  omega
section
variable {n t : Nat} {L : Nat → List Nat}
theorem gs_len {k : Nat} {g : List (Option Nat)} (h : g ∈ allG L k) : g.length = k := by
  obtain ⟨F, rfl, _⟩ := (mem_allG L k g).mp h
  simp [tl]
abbrev eGs (gs : List (List (Option Nat))) : D := eLs (eLs eOp) gs
theorem sp_lgivings (o : OkS n t L) : m__law_givings [eS n t L] = .ok (eGs (allG L n)) := by
  have n2 := o.n2
  rw [m__law_givings, rd1_eq, b__law_givings]
  simp only [Res.bind_ok, mkL0, capK_ow, mkL1, ix0_eS, seq_eLl o]
  have fin : ∀ (f : D → D → Res (Fl D D)) (k : D → Res (Fl Unit Empty)), (∀ s, k s = .ok (.rt s)) → (∀ i, i < n → f (eLs eNat (L i)) (eGs (allG L i)) = .ok (.nx (eGs (allG L (i + 1))))) →
      fnR .sh (Fl.seq (forD f ((List.range n).map fun k => eLs eNat (L k)) (.list [.list []])) k) = .ok (eGs (allG L n)) := fun f k hk H => by
    obtain ⟨s', e1, p1⟩ := forD_inv (L := Empty) (f := f) (fun i s => s = eGs (allG L i)) ((List.range n).map fun k => eLs eNat (L k)) 0 (.list [.list []]) rfl (fun i d s hi hp => by
      rw [Nat.zero_add] at hp ⊢
      have hin : i < n := by have := (List.getElem?_eq_some_iff.mp hi).1; simpa using this
      rw [List.getElem?_map, List.getElem?_range hin] at hi
      cases hi
      subst hp
      exact ⟨_, H i hin, rfl⟩)
    rw [e1, Fl.seq_nx, hk]
    rw [Nat.zero_add, List.length_map, List.length_range] at p1
    rw [p1]
    rfl
  refine fin _ _ (fun s => rfl) fun i hi => ?_
  have l1 := allG_lt o (k := i) (by omega)
  have l2 := allG_lt o (k := i + 1) (by omega)
  have l3 : (L i).length ≤ 1000000 := by have := o.len hi; omega
  have hs : sortD .sh (eLs eNat (L i)) = .ok (eLs eNat (srt (L i))) := sortD_nat l3
  have sl : (srt (L i)).length ≤ 1000000 := by rw [srt_len]; exact l3
  simp only [Res.bind_ok, seq_ls (f := eLs eOp) (xs := allG L i) (by omega)]
  have fin2 : ∀ (f : D → D → Res (Fl D D)) (k : D → Res (Fl D D)), (∀ s, k s = .ok (.nx s)) → (∀ (g : List (Option Nat)) (gs : List (List (Option Nat))), g ∈ allG L i → gs.length ≤ 4000 → f (eLs eOp g) (eGs gs) = .ok (.nx (eGs (gs ++ exts (srt (L i)) g)))) →
      Fl.seq (forD f ((allG L i).map (eLs eOp)) (.list [])) k = .ok (.nx (eGs (allG L (i + 1)))) := fun f k hk H => by
    obtain ⟨s', e1, p1⟩ := forD_inv (L := D) (f := f) (fun j s => s = eGs (((allG L i).take j).flatMap (exts (srt (L i))))) ((allG L i).map (eLs eOp)) 0 (.list []) rfl (fun j d s hj hp => by
      rw [Nat.zero_add] at hp ⊢
      have hjn : j < (allG L i).length := by have := (List.getElem?_eq_some_iff.mp hj).1; simpa using this
      rw [List.getElem?_map, List.getElem?_eq_getElem hjn] at hj
      cases hj
      subst hp
      refine ⟨_, H _ _ (List.getElem_mem hjn) ?_, ?_⟩
      · have h1 := flat_len (f := exts (srt (L i))) (m := 5) (xs := (allG L i).take j) fun x _ => exts_len (by rw [srt_len]; exact o.len hi)
        have h2 : ((allG L i).take j).length ≤ 5 ^ i := by rw [List.length_take]; have := allG_len o i (by omega); omega
        have h3 : 5 ^ i ≤ 5 ^ 4 := Nat.pow_le_pow_right (by omega) (by omega)
        omega
      · rw [List.take_succ_eq_append_getElem hjn, List.flatMap_append, List.flatMap_singleton])
    rw [e1, Fl.seq_nx, hk]
    rw [Nat.zero_add, List.length_map, List.take_of_length_le (Nat.le_refl _)] at p1
    rw [p1]
    rfl
  refine fin2 _ _ (fun s => rfl) fun g gs hg hl => ?_
  have gl := gs_len hg
  have xl : ∀ y : Option Nat, addL .sh .ow (eLs eOp g) (eLs eOp [y]) = .ok (eLs eOp (g ++ [y])) := fun y => addL_ls (by simp; omega)
  simp only [Res.bind_ok, hs, capK_ow, seq_ls sl]
  rw [lcR_fm (p := fun x => !decide (some x ∈ g)) (h := fun x => eLs eOp (g ++ [some x])) fun x hx => by
    have e : DL.ninL (eNat x) (eLs eOp g) = .ok (!decide (some x ∈ g)) := encOp.ninL (by decide) (some x) g
    have e2 : PyData.list [eNat x] = eLs eOp [some x] := rfl
    simp only [Res.bind_ok, e, mkL1, e2, xl, capK_ow, lcF_ok]]
  have e3 : PyData.list (((srt (L i)).filter fun x => !decide (some x ∈ g)).map fun x => eLs eOp (g ++ [some x])) = eGs (((srt (L i)).filter fun x => !decide (some x ∈ g)).map fun x => g ++ [some x]) := by
    unfold eGs eLs
    rw [List.map_map]
    rfl
  have fl : ((srt (L i)).filter fun x => !decide (some x ∈ g)).length ≤ 4 := by
    have := List.length_filter_le (fun x => !decide (some x ∈ g)) (srt (L i))
    rw [srt_len] at this
    have := o.len hi
    omega
  have e4 : PyData.list [PyData.none] = eLs eOp [none] := rfl
  simp only [Res.bind_ok, e3]
  rw [addL_ls (by rw [List.length_map]; omega)]
  simp only [Res.bind_ok, mkL1, e4, xl, capK_ow]
  rw [appD_ok _ (by simp only [List.length_map, List.length_append, sz]; omega)]
  have e5 : PyData.list ((gs ++ ((srt (L i)).filter fun x => !decide (some x ∈ g)).map fun x => g ++ [some x]).map (eLs eOp) ++ [eLs eOp (g ++ [none])]) = eGs (gs ++ exts (srt (L i)) g) := by
    unfold exts
    rw [← List.append_assoc]
    show _ = PyData.list (((gs ++ _) ++ [g ++ [none]]).map (eLs eOp))
    rw [List.map_append (l₂ := [g ++ [none]])]
    rfl
  rw [e5]
  rfl
end
end K42

namespace K42
open PySem PySem.Spec L2 DL
open PyProof.Rows hiding St
theorem mixN {ds : List Int} (hz : ds.length ≤ 10000) {k many : Int} (hk : 0 ≤ k) (hm : 0 < many) : ∃ r : Nat, (r : Int) < many ∧ m__law_mix [eZ ds, .int k, .int many] = .ok (.int (r : Int)) := by
  obtain ⟨m1, m2, m3⟩ := mix_ok hz hk hm
  refine ⟨(mixI ds k many).toNat, by omega, ?_⟩
  rw [m1, Int.toNat_of_nonneg m2]
theorem sp_lseekers {ds : List Int} (hz : ds.length ≤ 10000) : ∃ n t L, OkS n t L ∧ m__law_seekers [eZ ds, .int 10, .int 5, .int 4] = .ok (eS n t L) := by
  obtain ⟨t0, ht, et⟩ := mixN hz (k := 10) (many := 4) (by omega) (by omega)
  obtain ⟨n0, hn, en⟩ := mixN hz (k := 10 + 1) (many := 5) (by omega) (by omega)
  have e1 : (1 : Int) + (t0 : Int) = ((t0 + 1 : Nat) : Int) := by omega
  have e2 : (1 : Int) + (n0 : Int) = ((n0 + 1 : Nat) : Int) := by omega
  have rg : rngL (.int 0) (.int ((n0 + 1 : Nat) : Int)) = .ok ((List.range (n0 + 1)).map eNat) := rngL_ok (by omega)
  rw [m__law_seekers, rd4_eq, b__law_seekers]
  simp only [Res.bind_ok, et, addI_int, e1, en, e2, mkL0, rg]
  have fin : ∀ (f : D → D → Res (Fl D D)) (k : D → Res (Fl Unit Empty)), (∀ s, k s = .ok (.rt (.tuple [s, .int ((t0 + 1 : Nat) : Int)]))) →
      (∀ i (Ls : List (List Nat)), i < n0 + 1 → Ls.length = i → ∃ l : List Nat, (l.Nodup ∧ ∀ x ∈ l, x < t0 + 1) ∧ f (eNat i) (eLs (eLs eNat) Ls) = .ok (.nx (eLs (eLs eNat) (Ls ++ [l])))) →
      ∃ n t L, OkS n t L ∧ fnR .sh (Fl.seq (forD f ((List.range (n0 + 1)).map eNat) (.list [])) k) = .ok (eS n t L) := fun f k hk H => by
    obtain ⟨s', e1, p1⟩ := forD_inv (L := Empty) (f := f) (fun i s => ∃ Ls : List (List Nat), Ls.length = i ∧ (∀ l ∈ Ls, l.Nodup ∧ ∀ x ∈ l, x < t0 + 1) ∧ s = eLs (eLs eNat) Ls) ((List.range (n0 + 1)).map eNat) 0 (.list []) ⟨[], rfl, by simp, rfl⟩ (fun i d s hi hp => by
      rw [Nat.zero_add] at hp ⊢
      have hin : i < n0 + 1 := by have := (List.getElem?_eq_some_iff.mp hi).1; simpa using this
      rw [List.getElem?_map, List.getElem?_range hin] at hi
      cases hi
      obtain ⟨Ls, l1, l2, rfl⟩ := hp
      obtain ⟨l, h1, h2⟩ := H i Ls hin l1
      refine ⟨_, h2, Ls ++ [l], by simp [l1], fun x hx => ?_, rfl⟩
      rcases List.mem_append.mp hx with h | h
      · exact l2 x h
      · rw [List.mem_singleton.mp h]; exact h1)
    rw [Nat.zero_add, List.length_map, List.length_range] at p1
    obtain ⟨Ls, l1, l2, rfl⟩ := p1
    rw [e1, Fl.seq_nx, hk]
    have gt : ∀ k, k < n0 + 1 → Ls.getD k [] ∈ Ls := fun k hk => by
      rw [List.getD_eq_getElem?_getD, List.getElem?_eq_getElem (by omega)]
      exact List.getElem_mem _
    refine ⟨n0 + 1, t0 + 1, fun k => Ls.getD k [], ⟨by omega, by omega, by omega, by omega, fun k hk => (l2 _ (gt k hk)).1, fun k hk => (l2 _ (gt k hk)).2⟩, ?_⟩
    have e3 : eLs (eLs eNat) Ls = eLl (n0 + 1) fun k => Ls.getD k [] := by
      unfold eLl
      rw [eLs]
      refine congrArg PyData.list (List.ext_getElem (by simp [l1]) fun i h1 h2 => ?_)
      simp only [List.getElem_map, List.getElem_range, List.getD_eq_getElem?_getD]
      rw [List.getElem?_eq_getElem (by simpa using h1)]
      rfl
    rw [e3]
    rfl
  refine fin _ _ (fun s => by simp only [Res.bind_ok, mkT2]) fun i Ls hi hl => ?_
  obtain ⟨o, op, eo⟩ := sp_lorder hz (first := 10 + 2 + 12 * (i : Int)) (by omega) (n := t0 + 1) (by omega)
  obtain ⟨c, hc, ec⟩ := mixN hz (k := 10 + 10 + 12 * (i : Int)) (many := ((t0 + 1 : Nat) : Int) + 1) (by omega) (by omega)
  obtain ⟨b, hb, eb⟩ := mixN hz (k := 10 + 11 + 12 * (i : Int)) (many := 2) (by omega) (by omega)
  have mu : mulI (.int 12) (eNat i) = .ok (.int (12 * (i : Int))) := mulI_l (by decide)
  obtain ⟨m, em⟩ : ∃ m : Nat, ixD (.list [.int ((t0 + 1 : Nat) : Int), .int (c : Int)]) (.int (b : Int)) = .ok (.int (m : Int)) := by
    have : b = 0 ∨ b = 1 := by omega
    rcases this with rfl | rfl
    · exact ⟨_, ixD_0⟩
    · exact ⟨c, ixD_nat rfl⟩
  simp only [Res.bind_ok, addI_int, mu, eo, capK_ow, ec, eb, mkL2, em, toI_int]
  have e3 : slcL true .sh (eLs eNat o) none (some (m : Int)) = .ok (eLs eNat (o.take m)) := by rw [eLs, slc_take, ← List.map_take]; rfl
  refine ⟨o.take m, ⟨(op.nodup_iff.mpr List.nodup_range).sublist (List.take_sublist _ _), fun x hx => List.mem_range.mp (op.mem_iff.mp (List.mem_of_mem_take hx))⟩, ?_⟩
  have e4 : appD (eLs (eLs eNat) Ls) (eLs eNat (o.take m)) = .ok (eLs (eLs eNat) (Ls ++ [o.take m])) := by
    have e5 : eLs (eLs eNat) (Ls ++ [o.take m]) = .list (Ls.map (eLs eNat) ++ [eLs eNat (o.take m)]) := by
      show PyData.list ((Ls ++ [o.take m]).map (eLs eNat)) = _
      rw [List.map_append]; rfl
    rw [e5]
    exact appD_ok _ (by rw [List.length_map, sz]; omega)
  simp only [Res.bind_ok, e3, capK_ow, e4]
end K42

namespace K42
open PySem PySem.Spec L2 DL
open PyProof.Rows hiding St
open PySem.W (alike AlikeAll minD maxD dataLt)
section
variable {n t : Nat} {L : Nat → List Nat} {cl : Nat → Option Nat} {F R H : Nat → Option Nat}
theorem shw_eOp {x : Option Nat} (h : ∀ a, x = some a → a < 10) : Shw (eOp x) 4 0 := by
  cases x with
  | none => exact Shw.none
  | some a => exact (Shw.int (k := 1) (by omega) (by have := h a rfl; simp only [Int.reducePow]; omega)).mono (by decide) (by decide)
theorem shw_eF (o : OkS n t L) (gv : Giv n L R) : Shw (eF n R) (5 * (4 + 2) + 2) 1 :=
  Shw.list (by rw [List.length_map, tl, List.length_map, List.length_range]; exact o.n2) fun x hx => by
    obtain ⟨y, hy, rfl⟩ := List.mem_map.mp hx
    obtain ⟨j, hj, rfl⟩ := List.mem_map.mp hy
    refine shw_eOp fun a e => ?_
    have := o.lt j (List.mem_range.mp hj) a (gv.inL j (List.mem_range.mp hj) a e)
    have := o.t2
    omega
theorem shw_eS (o : OkS n t L) : Shw (eS n t L) (2 * (200 + 2) + 3) 3 := by
  refine Shw.tup (k := 200) (n := 2) (dp := 2) (by simp) fun x hx => ?_
  simp only [List.mem_cons, List.not_mem_nil, or_false] at hx
  rcases hx with rfl | rfl
  · refine (Shw.list (n := 5) (k := 14) (dp := 1) (by rw [List.length_map, List.length_range]; exact o.n2) fun x hx => ?_).mono (by decide) (by decide)
    obtain ⟨k, hk, rfl⟩ := List.mem_map.mp hx
    have hk := List.mem_range.mp hk
    refine (Shw.list (n := 4) (k := 1) (dp := 0) (by rw [List.length_map]; exact o.len hk) fun x hx => ?_).mono (by decide) (by decide)
    obtain ⟨a, ha, rfl⟩ := List.mem_map.mp hx
    have := o.lt k hk a ha
    have := o.t2
    exact Shw.int (k := 1) (by omega) (by simp only [Int.reducePow]; omega)
  · have := o.t2
    exact (Shw.int (k := 1) (by omega) (by simp only [Int.reducePow]; omega)).mono (by decide) (by decide)
theorem alikeB_ints (xs : List Int) : alikeB (xs.map .int) = true := by
  simp [alikeB, alike, isN]
theorem maxL_ints (x : Int) (xs : List Int) : maxL (.list ((x :: xs).map .int)) = .ok (.int (xs.foldl max x)) := by
  have h : (alikeB ((x :: xs).map .int) && decide (PyData.depthAll ((x :: xs).map .int) ≤ 60)) = true := by
    rw [alikeB_ints, PySem.W.depth_ints]
    rfl
  rw [← PySem.W.maxD_ints]
  exact if_pos h
theorem minL_ints (x : Int) (xs : List Int) : minL (.list ((x :: xs).map .int)) = .ok (.int (xs.foldl min x)) := by
  have h : (alikeB ((x :: xs).map .int) && decide (PyData.depthAll ((x :: xs).map .int) ≤ 60)) = true := by
    rw [alikeB_ints, PySem.W.depth_ints]
    rfl
  rw [← PySem.W.minD_ints]
  exact if_pos h
theorem fold_min : ∀ (xs : List Int) (x : Int), xs.foldl min x ≤ x ∧ ∀ y ∈ xs, xs.foldl min x ≤ y
  | [], x => ⟨Int.le_refl _, by simp⟩
  | z :: r, x => by
    obtain ⟨h1, h2⟩ := fold_min r (min x z)
    refine ⟨by simp only [List.foldl_cons]; omega, fun y hy => ?_⟩
    rcases List.mem_cons.mp hy with rfl | hy
    · simp only [List.foldl_cons]; omega
    · exact h2 y hy
theorem fold_max : ∀ (xs : List Int) (x : Int), xs.foldl max x = x ∨ xs.foldl max x ∈ xs
  | [], x => .inl rfl
  | z :: r, x => by
    rcases fold_max r (max x z) with h | h
    · rw [List.foldl_cons, h]
      by_cases c : x ≤ z
      · exact .inr (by rw [Int.max_eq_right c]; simp)
      · exact .inl (Int.max_eq_left (by omega))
    · exact .inr (List.mem_cons_of_mem _ h)
/-- no giving is as good for all, and better for one -/
theorem no_better {n : Nat} (n1 : 1 ≤ n) {f : Nat → Int} (h : (∀ k, k < n → 0 ≤ f k) → ∀ k, k < n → f k = 0) :
    (minL (.list ((List.range n).map fun k => .int (f k))) >>= fun x => geI x (.int 0)) >>= (fun t => if t then (maxL (.list ((List.range n).map fun k => .int (f k))) >>= fun x => gtI x (.int 0)) else Res.ok false) = .ok false := by
  have e : ((List.range n).map fun k => PyData.int (f k)) = (((List.range n).map f).map .int) := by rw [List.map_map]; rfl
  obtain ⟨x, xs, ex⟩ := List.exists_cons_of_ne_nil (show (List.range n).map f ≠ [] by simp; omega)
  have mem : ∀ y, y ∈ x :: xs ↔ ∃ k, k < n ∧ f k = y := fun y => by
    rw [← ex, List.mem_map]
    exact ⟨fun ⟨k, h1, h2⟩ => ⟨k, List.mem_range.mp h1, h2⟩, fun ⟨k, h1, h2⟩ => ⟨k, List.mem_range.mpr h1, h2⟩⟩
  rw [e, ex, maxL_ints, minL_ints]
  simp only [Res.bind_ok, geI_int, gtI_int]
  by_cases c : 0 ≤ xs.foldl min x
  · rw [decide_eq_true c, if_pos rfl]
    have all : ∀ k, k < n → 0 ≤ f k := fun k hk => by
      obtain ⟨h1, h2⟩ := fold_min xs x
      rcases List.mem_cons.mp ((mem _).mpr ⟨k, hk, rfl⟩) with q | q
      · omega
      · have := h2 _ q; omega
    have z := h all
    have : xs.foldl max x ∈ x :: xs := by
      rcases fold_max xs x with q | q
      · rw [q]; simp
      · exact List.mem_cons_of_mem _ q
    obtain ⟨k, hk, e2⟩ := (mem _).mp this
    rw [← e2, z k hk]
    rfl
  · rw [decide_eq_false c]
    rfl
end
end K42

namespace K42
open PySem PySem.Spec L2 DL
open PyProof.Rows hiding St
section
variable {n t : Nat} {L : Nat → List Nat} {cl : Nat → Option Nat} {F R H : Nat → Option Nat}
theorem giv_none : Giv n L fun _ => none := ⟨fun _ _ _ h => (by cases h), fun _ _ _ _ _ h => (by cases h)⟩
theorem sp_none (o : OkS n t L) {ord : List Nat} (hp : ord.Perm (List.range n)) : m_with_claims [eS n t L, eLs eNat ord, eF n fun _ => none] = .ok (eF n (ord.foldl (turn n L) fun _ => none)) := by
  obtain ⟨s, md⟩ := start_ok (L := L) giv_none hp
  obtain ⟨R, hr, _⟩ := runs_all giv_none ord.length _ _ (Nat.le_refl _) s md
  have e := runs_turns ord _ R (hp.nodup_iff.mpr List.nodup_range) hr
  rw [sp_with o giv_none hp hr, e]
theorem sp_last : m_with_claims [.tuple [.list [.list [.int 1, .int 0], .list [.int 0, .int 1]], .int 2], .list [.int 0, .int 1], .list [.int 0, .int 1]] = .ok (.list [.int 1, .int 0]) := by
  let L : Nat → List Nat := fun k => if k = 0 then [1, 0] else [0, 1]
  let cl : Nat → Option Nat := fun k => some k
  let H : Nat → Option Nat := fun k => if k = 0 then some 1 else some 0
  have o : OkS 2 2 L := ⟨by omega, by omega, by omega, by omega, fun k hk => by
    have : k = 0 ∨ k = 1 := by omega
    rcases this with rfl | rfl <;> decide, fun k hk x hx => by
    have : k = 0 ∨ k = 1 := by omega
    rcases this with rfl | rfl <;> (simp [L] at hx; omega)⟩
  have gc : Giv 2 L cl := ⟨fun k hk x hx => by
    have : k = 0 ∨ k = 1 := by omega
    cases hx
    rcases this with rfl | rfl <;> decide, fun j k _ _ x h1 h2 => by cases h1; cases h2; rfl⟩
  have gh : Giv 2 L H := ⟨fun k hk x hx => by
    have : k = 0 ∨ k = 1 := by omega
    rcases this with rfl | rfl <;> (cases hx; decide), fun j k hj hk x h1 h2 => by
    have : j = 0 ∨ j = 1 := by omega
    have : k = 0 ∨ k = 1 := by omega
    rcases ‹j = 0 ∨ j = 1› with rfl | rfl <;> rcases ‹k = 0 ∨ k = 1› with rfl | rfl
    · rfl
    · cases h1; cases h2
    · cases h1; cases h2
    · rfl⟩
  have hp : [0, 1].Perm (List.range 2) := List.Perm.refl _
  obtain ⟨s, md⟩ := start_ok (L := L) gc hp
  obtain ⟨R, hr, d⟩ := runs_all gc 2 _ _ (Nat.le_refl _) s md
  have e := sp_with o gc hp hr
  have pr := pareto d gh fun k hk => by
    have : k = 0 ∨ k = 1 := by omega
    rcases this with rfl | rfl <;> exact Nat.zero_le _
  have e2 : eF 2 R = eF 2 H := by
    unfold eF tl
    rw [List.map_congr_left fun k hk => pr k (List.mem_range.mp hk)]
  rw [e2] at e
  exact e
end
theorem law_true (ns : List Int) (h : ns.length ≤ 63) (hb : ∀ z ∈ ns, PySem.Builtin.Int.intBits z ≤ 1048576) : m_law [.list (ns.map .int)] = .ok (.bool true) := by
  obtain ⟨ds, hz, hd⟩ := sp_draws ns h
  obtain ⟨n, t, L, o, hw⟩ := sp_lseekers hz
  have n1 := o.n1
  have n2 := o.n2
  have rS := repD_ok (shw_eS o) (by decide) (by decide)
  have r3 : rngL (.int 0) (.int 3) = .ok ((List.range 3).map fun i => .int (i : Nat)) := rngL_ok (n := 3) (by decide)
  have us : ∀ f : D × D → Res (Fl Unit Empty), (Res.ok (eS n t L) >>= fun q => (unT 2 (unC (fun q13 => Res.ok q13) (un1 (fun q14 => Res.ok q14))) q : Res (D × D)) >>= f) = f (eLl n L, .int (t : Nat)) := fun f => rfl
  rw [m_law, rd1_eq, b_law]
  simp only [Res.bind_ok, hd, capK_ow, hw]
  have us2 : (unT 2 (unC (fun q13 => Res.ok q13) (un1 (fun q14 => Res.ok q14))) (eS n t L) : Res (D × D)) = .ok (eLl n L, .int (t : Nat)) := rfl
  simp only [us2, Res.bind_ok, len_eLl, rS, sp_lgivings o, r3]
  rw [forD_unit]
  · have e1 : eqD (.str (eS n t L).shown) (.str (eS n t L).shown) = .ok true := eqD_str _
    have e2 : eqD (.list [.int 1, .int 0]) (.list [.int 1, .int 0]) = .ok true := by
      have := (encInt.ls).eqD (by decide) [1, 0] [1, 0]
      exact this
    simp only [Fl.seq_nx, Res.bind_ok, e1, bD_eq, toB_bool, if_true, mkL2, capK_ow, mkT2, sp_last, e2]
    rfl
  intro d hd'
  obtain ⟨i, hi, rfl⟩ := List.mem_map.mp hd'
  have hi := List.mem_range.mp hi
  obtain ⟨ord, op, eo⟩ := sp_lorder hz (first := 100 + 10 * (i : Int)) (by omega) (n := n) (by omega)
  have gl := allG_lt o (Nat.le_refl n)
  have gne : 0 < (allG L n).length := List.length_pos_iff.mpr fun z => by
    have := (mem_allG L n _).mpr ⟨_, rfl, giv_none⟩
    rw [z] at this
    cases this
  obtain ⟨c, hc, ec⟩ := mixN hz (k := 130 + (i : Int)) (many := ((allG L n).length : Int)) (by omega) (by omega)
  have hc : c < (allG L n).length := by omega
  obtain ⟨cl, ecl, gc⟩ := (mem_allG L n _).mp (List.getElem_mem hc)
  have eix : ixD (eGs (allG L n)) (.int (c : Int)) = .ok (eF n cl) := by
    rw [eF, ← ecl]
    exact ixD_map (List.getElem?_eq_getElem hc)
  obtain ⟨s, md⟩ := start_ok (L := L) gc op
  obtain ⟨R, hr, dn⟩ := runs_all gc ord.length _ _ (Nat.le_refl _) s md
  have mu : mulI (.int 10) (.int (i : Int)) = .ok (.int (10 * (i : Int))) := mulI_l (by decide)
  have rF := repD_ok (shw_eF o dn.gv) (by decide) (by decide)
  have nin : DL.ninL (eF n R) (eGs (allG L n)) = .ok false := by
    have := encOp.ls.ninL (by decide) (tl n R) (allG L n)
    rw [decide_eq_true ((mem_allG L n _).mpr ⟨R, rfl, dn.gv⟩)] at this
    exact this
  have rg : rngL (.int 0) (.int (n : Int)) = .ok ((List.range n).map fun i => .int (i : Nat)) := rngL_ok (by omega)
  have pR : ∀ k, k < n → m__law_place [eLs eNat (L k), eOp (R k)] = .ok (.int (place (L k) (R k) : Nat)) := fun k hk => sp_place fun a e => dn.gv.inL k hk a e
  have pC : ∀ k, k < n → m__law_place [eLs eNat (L k), eOp (cl k)] = .ok (.int (place (L k) (cl k) : Nat)) := fun k hk => sp_place fun a e => gc.inL k hk a e
  simp only [Res.bind_ok, mu, addI_int, eo, capK_ow, len_ls, ec, eix, sp_with o gc op hr, sp_lclaims o gc op hr, rF, neD_str, Bool.false_eq_true, if_false, nin, rg]
  rw [lcR_fm (p := fun k => decide ((place (L k) (cl k) : Int) < (place (L k) (R k) : Int))) (h := fun k => .int (k : Nat)) fun k hk => by
    have hk := List.mem_range.mp hk
    simp only [Res.bind_ok, ix_eLl hk, ix_eF hk, pR k hk, pC k hk, gtI_int, lcF_ok]]
  have nil : ((List.range n).filter fun k => decide ((place (L k) (cl k) : Int) < (place (L k) (R k) : Int))) = [] := by
    rw [List.filter_eq_nil_iff]
    intro k hk
    have := dn.ir k (List.mem_range.mp hk)
    simp only [decide_eq_true_eq]
    omega
  have l0 : lenD (.list []) = .ok (.int 0) := rfl
  have g0 : decide ((0 : Int) < 0) = false := rfl
  have sq : seqL (eGs (allG L n)) = .ok ((allG L n).map (eLs eOp)) := seq_ls (by omega)
  rw [nil]
  simp only [List.map_nil, Res.bind_ok, l0, gtI_int, g0, Bool.false_eq_true, if_false, sq]
  rw [forD_unit]
  · have i1 : isntD (.bool true) (.bool true) = .ok false := rfl
    have ne : neD (eF n (ord.foldl (turn n L) fun _ => none)) (eF n (ord.foldl (turn n L) fun _ => none)) = .ok false := by
      have := encOp.ls.neD (by decide) (tl n (ord.foldl (turn n L) fun _ => none)) (tl n (ord.foldl (turn n L) fun _ => none))
      simp only [decide_true, Bool.not_true] at this
      exact this
    simp only [Fl.seq_nx, Res.bind_ok, sp_pareto o dn, i1, Bool.false_eq_true, if_false, mkL1, rep_eF (show n ≤ 6 by omega), capK_ow, sp_none o op, sp_turns o op, ne]
  intro d hd
  obtain ⟨g, hg, rfl⟩ := List.mem_map.mp hd
  obtain ⟨H, rfl, gh⟩ := (mem_allG L n _).mp hg
  have pH : ∀ k, k < n → m__law_place [eLs eNat (L k), eOp (H k)] = .ok (.int (place (L k) (H k) : Nat)) := fun k hk => sp_place fun a e => gh.inL k hk a e
  have eH : eLs eOp (tl n H) = eF n H := rfl
  simp only [Res.bind_ok, eH]
  rw [lcR_m (h := fun k => .int ((place (L k) (R k) : Int) - (place (L k) (H k) : Int))) fun k hk => by
    have hk := List.mem_range.mp hk
    simp only [Res.bind_ok, ix_eLl hk, ix_eF hk, pR k hk, pH k hk, subI_int, lcF_ok, if_true]]
  have nb := no_better n1 (f := fun k => (place (L k) (R k) : Int) - (place (L k) (H k) : Int)) fun h k hk => by
    have := pareto dn gh (fun k hk => by have := h k hk; omega) k hk
    rw [this]
    omega
  have fin : ∀ (b : Res Bool) (g : Bool → Res (Fl Unit Unit)), b = .ok false → g false = .ok (.nx ()) → (b >>= g) = .ok (.nx ()) := fun b g e1 e2 => by rw [e1]; exact e2
  refine fin _ _ nb rfl
end K42

open PySem PySem.W PyProof.Rows
theorem PySem.Challenge.cw_pairsbywish_k42_whole_turns_with_claims_holds : PySem.Challenge.rw_pairsbywish_k42_whole_turns_with_claims.Holds := by
  w_on; o_law; k_head; (case hw => w_witness2)
  k_fill
  refine DL.walk_g (l := PySem.Challenge.rw_pairsbywish_k42_whole_turns_with_claims) (n := 63) (k := 5) (x := "script") (m := K42.m_law) rfl (by decide) rfl ⟨rfl, by decide, by decide⟩ (fun w h Y => PySem.W.kIn_of Y) ?F K42.law_true (fun _ _ _ _ _ h => DL.LCX h)
  case F =>
    intro w mg fa h KX G hmg
    refine' K42.all_mk KX G hmg ?a__law_draws ?l__law_draws ?c__law_draws ?k__law_draws ?a__law_mix ?l__law_mix ?c__law_mix ?k__law_mix ?a__law_order ?l__law_order ?c__law_order ?k__law_order ?a__law_seekers ?l__law_seekers ?c__law_seekers ?k__law_seekers ?a__law_givings ?l__law_givings ?c__law_givings ?k__law_givings ?a_is_wish ?l_is_wish ?c_is_wish ?k_is_wish ?a_check_seekers ?l_check_seekers ?c_check_seekers ?k_check_seekers ?a_check_order ?l_check_order ?c_check_order ?k_check_order ?a_giving_of ?l_giving_of ?c_giving_of ?k_giving_of ?a_best_left ?l_best_left ?c_best_left ?k_best_left ?a_with_claims ?l_with_claims ?c_with_claims ?k_with_claims ?a_check_givings ?l_check_givings ?c_check_givings ?k_check_givings ?a_is_pareto_giving ?l_is_pareto_giving ?c_is_pareto_giving ?k_is_pareto_giving ?a_turns_of ?l_turns_of ?c_turns_of ?k_turns_of ?a_by_turns ?l_by_turns ?c_by_turns ?k_by_turns ?a__law_best ?l__law_best ?c__law_best ?k__law_best ?a__law_claims ?l__law_claims ?c__law_claims ?k__law_claims ?a__law_place ?l__law_place ?c__law_place ?k__law_place ?a_law ?l_law ?c_law ?k_law ?z_range ?z_min ?z_len ?z_abs ?z_int ?z_list ?z_sorted ?z_all ?z_enumerate ?z_zip ?z_repr ?z_max ?g_MOST_SEEKERS ?g_MOST_THINGS
    (case a__law_draws => k_is); (case l__law_draws => k_is); (case c__law_draws => k_is); (case k__law_draws => k_is); (case a__law_mix => k_is); (case l__law_mix => k_is); (case c__law_mix => k_is); (case k__law_mix => k_is); (case a__law_order => k_is); (case l__law_order => k_is); (case c__law_order => k_is); (case k__law_order => k_is); (case a__law_seekers => k_is); (case l__law_seekers => k_is); (case c__law_seekers => k_is); (case k__law_seekers => k_is); (case a__law_givings => k_is); (case l__law_givings => k_is); (case c__law_givings => k_is); (case k__law_givings => k_is); (case a_is_wish => k_is); (case l_is_wish => k_is); (case c_is_wish => k_is); (case k_is_wish => k_is); (case a_check_seekers => k_is); (case l_check_seekers => k_is); (case c_check_seekers => k_is); (case k_check_seekers => k_is); (case a_check_order => k_is); (case l_check_order => k_is); (case c_check_order => k_is); (case k_check_order => k_is); (case a_giving_of => k_is); (case l_giving_of => k_is); (case c_giving_of => k_is); (case k_giving_of => k_is); (case a_best_left => k_is); (case l_best_left => k_is); (case c_best_left => k_is); (case k_best_left => k_is); (case a_with_claims => k_is); (case l_with_claims => k_is); (case c_with_claims => k_is); (case k_with_claims => k_is); (case a_check_givings => k_is); (case l_check_givings => k_is); (case c_check_givings => k_is); (case k_check_givings => k_is); (case a_is_pareto_giving => k_is); (case l_is_pareto_giving => k_is); (case c_is_pareto_giving => k_is); (case k_is_pareto_giving => k_is); (case a_turns_of => k_is); (case l_turns_of => k_is); (case c_turns_of => k_is); (case k_turns_of => k_is); (case a_by_turns => k_is); (case l_by_turns => k_is); (case c_by_turns => k_is); (case k_by_turns => k_is); (case a__law_best => k_is); (case l__law_best => k_is); (case c__law_best => k_is); (case k__law_best => k_is); (case a__law_claims => k_is); (case l__law_claims => k_is); (case c__law_claims => k_is); (case k__law_claims => k_is); (case a__law_place => k_is); (case l__law_place => k_is); (case c__law_place => k_is); (case k__law_place => k_is); (case a_law => k_is); (case l_law => k_is); (case c_law => k_is); (case k_law => k_is); (case z_range => k_is); (case z_min => k_is); (case z_len => k_is); (case z_abs => k_is); (case z_int => k_is); (case z_list => k_is); (case z_sorted => k_is); (case z_all => k_is); (case z_enumerate => k_is); (case z_zip => k_is); (case z_repr => k_is); (case z_max => k_is); (case g_MOST_SEEKERS => k_is); (case g_MOST_THINGS => k_is)
