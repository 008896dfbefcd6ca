/-
  An evaluator of closed calls, part A: what it reckons, the machine does, in every world.
-/
import Derived.Calls
import Derived.Orders
import Derived.Below
import Derived.Laws.Sem
import Derived.Laws.Entries
import Derived.Laws.Strings
import Derived.Laws.StructEq
import Derived.Deep.MidRow
import Derived.Laws.CopyRow
import Derived.Laws.Append
set_option linter.unusedVariables false
set_option linter.unusedSimpArgs false
namespace Go.Ev

/-! ### A table by numbers -/
inductive T (α : Type) where
  | leaf
  | node (v : Option α) (l r : T α)
namespace T
variable {α : Type}
/-- In a form that the kernel reckons fast. -/
def get : T α → Nat → Option α
  | leaf, _ => none
  | node v l r, n => cond (Nat.beq n 0) v (cond (Nat.beq (Nat.mod n 2) 1) (l.get (Nat.div n 2)) (r.get (Nat.sub (Nat.div n 2) 1)))
/-- The first argument bounds the depth. -/
def put : Nat → T α → Nat → α → T α
  | 0, t, _, _ => t
  | k + 1, leaf, n, x => cond (Nat.beq n 0) (node (some x) leaf leaf) (cond (Nat.beq (Nat.mod n 2) 1) (node none (put k leaf (Nat.div n 2) x) leaf) (node none leaf (put k leaf (Nat.sub (Nat.div n 2) 1) x)))
  | k + 1, node v l r, n, x => cond (Nat.beq n 0) (node (some x) l r) (cond (Nat.beq (Nat.mod n 2) 1) (node v (put k l (Nat.div n 2) x) r) (node v l (put k r (Nat.sub (Nat.div n 2) 1) x)))
theorem cond_beq {β : Sort _} (n m : Nat) (x y : β) : cond (Nat.beq n m) x y = if n = m then x else y := by
  by_cases c : n = m
  · rw [if_pos c, Nat.beq_eq.mpr c]; rfl
  · have : Nat.beq n m = false := by
      cases h : Nat.beq n m with
      | false => rfl
      | true => exact absurd (Nat.eq_of_beq_eq_true h) c
    rw [if_neg c, this]; rfl
theorem get_leaf (n : Nat) : (leaf : T α).get n = none := by rw [get]
theorem get_node (v : Option α) (l r : T α) (n : Nat) : (node v l r).get n = if n = 0 then v else if n % 2 = 1 then l.get (n / 2) else r.get (n / 2 - 1) := by rw [get, cond_beq, cond_beq]; rfl
theorem put_zero (t : T α) (n : Nat) (x : α) : put 0 t n x = t := by rw [put]
theorem put_leaf (k : Nat) (n : Nat) (x : α) : put (k + 1) leaf n x = if n = 0 then node (some x) leaf leaf else if n % 2 = 1 then node none (put k leaf (n / 2) x) leaf else node none leaf (put k leaf (n / 2 - 1) x) := by rw [put, cond_beq, cond_beq]; rfl
theorem put_node (k : Nat) (v : Option α) (l r : T α) (n : Nat) (x : α) : put (k + 1) (node v l r) n x = if n = 0 then node (some x) l r else if n % 2 = 1 then node v (put k l (n / 2) x) r else node v l (put k r (n / 2 - 1) x) := by rw [put, cond_beq, cond_beq]; rfl
theorem get_put_same : ∀ (k : Nat) (t : T α) (n : Nat) (x : α), n < k → (put k t n x).get n = some x
  | 0, _, _, _, h => absurd h (Nat.not_lt_zero _)
  | k + 1, leaf, n, x, h => by
    rw [put_leaf]
    by_cases c : n = 0
    · rw [if_pos c, get_node, if_pos c]
    rw [if_neg c]
    by_cases d : n % 2 = 1
    · rw [if_pos d, get_node, if_neg c, if_pos d]; exact get_put_same k leaf (n / 2) x (by omega)
    · rw [if_neg d, get_node, if_neg c, if_neg d]; exact get_put_same k leaf (n / 2 - 1) x (by omega)
  | k + 1, node v l r, n, x, h => by
    rw [put_node]
    by_cases c : n = 0
    · rw [if_pos c, get_node, if_pos c]
    rw [if_neg c]
    by_cases d : n % 2 = 1
    · rw [if_pos d, get_node, if_neg c, if_pos d]; exact get_put_same k l (n / 2) x (by omega)
    · rw [if_neg d, get_node, if_neg c, if_neg d]; exact get_put_same k r (n / 2 - 1) x (by omega)
theorem get_put_ne : ∀ (k : Nat) (t : T α) (n m : Nat) (x : α), m ≠ n → (put k t n x).get m = t.get m
  | 0, _, _, _, _, _ => by rw [put_zero]
  | k + 1, leaf, n, m, x, h => by
    rw [put_leaf]
    by_cases c : n = 0
    · rw [if_pos c, get_node, if_neg (by omega), get_leaf, get_leaf, get_leaf]; split <;> rfl
    rw [if_neg c]
    by_cases d : n % 2 = 1
    · rw [if_pos d, get_node]
      by_cases e : m = 0
      · rw [if_pos e, get_leaf]
      rw [if_neg e]
      by_cases f : m % 2 = 1
      · rw [if_pos f, get_put_ne k leaf (n / 2) (m / 2) x (by omega), get_leaf, get_leaf]
      · rw [if_neg f, get_leaf, get_leaf]
    · rw [if_neg d, get_node]
      by_cases e : m = 0
      · rw [if_pos e, get_leaf]
      rw [if_neg e]
      by_cases f : m % 2 = 1
      · rw [if_pos f, get_leaf, get_leaf]
      · rw [if_neg f, get_put_ne k leaf (n / 2 - 1) (m / 2 - 1) x (by omega), get_leaf, get_leaf]
  | k + 1, node v l r, n, m, x, h => by
    rw [put_node]
    by_cases c : n = 0
    · rw [if_pos c, get_node, get_node, if_neg (show m ≠ 0 by omega), if_neg (show m ≠ 0 by omega)]
    rw [if_neg c]
    by_cases d : n % 2 = 1
    · rw [if_pos d, get_node, get_node]
      by_cases e : m = 0
      · rw [if_pos e, if_pos e]
      rw [if_neg e, if_neg e]
      by_cases f : m % 2 = 1
      · rw [if_pos f, if_pos f, get_put_ne k l (n / 2) (m / 2) x (by omega)]
      · rw [if_neg f, if_neg f]
    · rw [if_neg d, get_node, get_node]
      by_cases e : m = 0
      · rw [if_pos e, if_pos e]
      rw [if_neg e, if_neg e]
      by_cases f : m % 2 = 1
      · rw [if_pos f, if_pos f]
      · rw [if_neg f, if_neg f, get_put_ne k r (n / 2 - 1) (m / 2 - 1) x (by omega)]
end T

/-! ### Values: the same but for where memory lies and for capacities -/
/-- Where one of the evaluator's blocks lies: the block, its first cell, how many cells that block has in all, how many cells an element of a slice over it has. -/
structure Spot where
  B : Nat
  O : Nat
  S : Nat
  z : Nat
abbrev Ren := Nat → Option Spot
def Ren.le (ρ σ : Ren) : Prop := ∀ b x, ρ b = some x → σ b = some x
theorem Ren.le_refl (ρ : Ren) : ρ.le ρ := fun _ _ h => h
theorem Ren.le.trans {ρ σ τ : Ren} (h : ρ.le σ) (h' : σ.le τ) : ρ.le τ := fun b x e => h' b x (h b x e)
mutual
inductive VR (ρ : Ren) : Value → Value → Prop
  | bool (b : Bool) : VR ρ (.bool b) (.bool b)
  | int (k : IntKind) (n : Int) : VR ρ (.int k n) (.int k n)
  | string (s : ByteArray) : VR ρ (.string s) (.string s)
  | pnil : VR ρ (.pointer none) (.pointer none)
  | ptr {b : Nat} {p : Spot} (o : Nat) (h : ρ b = some p) : VR ρ (.pointer (some ⟨b, o, none⟩)) (.pointer (some ⟨p.B, p.O + o, none⟩))
  | snil : VR ρ (.slice none 0 0) (.slice none 0 0)
  | slice {b : Nat} {p : Spot} (o len cap cap' : Nat) (h : ρ b = some p) (hc : cap ≤ cap') (hl : len ≤ cap) (hs : p.O + o + cap' * p.z ≤ p.S) : VR ρ (.slice (some ⟨b, o, none⟩) len cap) (.slice (some ⟨p.B, p.O + o, none⟩) len cap')
  | slice0 {b : Nat} {p : Spot} (o o' cap' : Nat) (h : ρ b = some p) (hs : o' + cap' * p.z ≤ p.S) : VR ρ (.slice (some ⟨b, o, none⟩) 0 0) (.slice (some ⟨p.B, o', none⟩) 0 cap')
  | mnil : VR ρ (.map none) (.map none)
  | map {b : Nat} {p : Spot} (h : ρ b = some p) : VR ρ (.map (some b)) (.map (some p.B))
  | func (fn : Fn) {f f' c c' : List Value} (hf : VRs ρ f f') (hc : VRs ρ c c') : VR ρ (.func fn ⟨f⟩ ⟨c⟩) (.func fn ⟨f'⟩ ⟨c'⟩)
  | fnil : VR ρ .nilFunc .nilFunc
  | iface (t : TypeId) {v v' : Value} (h : VR ρ v v') : VR ρ (.iface t v) (.iface t v')
  | inil : VR ρ .nilIface .nilIface
  | agg {c c' : List Value} (h : VRs ρ c c') : VR ρ (.agg ⟨c⟩) (.agg ⟨c'⟩)
  | tuple {c c' : List Value} (h : VRs ρ c c') : VR ρ (.tuple ⟨c⟩) (.tuple ⟨c'⟩)
  | unkI (n : Int) : VR ρ (.float .f64 0) (.int .i64 n)
  | unkS (s : ByteArray) : VR ρ (.float .f64 1) (.string s)
  | unkB (b : Bool) : VR ρ (.float .f64 2) (.bool b)
  | unkL (a : Option Addr) (n c : Nat) : VR ρ (.float .f64 3) (.slice a n c)
inductive VRs (ρ : Ren) : List Value → List Value → Prop
  | nil : VRs ρ [] []
  | cons {v v' : Value} {l l' : List Value} (h : VR ρ v v') (t : VRs ρ l l') : VRs ρ (v :: l) (v' :: l')
end
mutual
theorem VR.mono {ρ σ : Ren} (h : ρ.le σ) : ∀ {v v' : Value}, VR ρ v v' → VR σ v v'
  | _, _, .bool b => .bool b
  | _, _, .int k n => .int k n
  | _, _, .string s => .string s
  | _, _, .pnil => .pnil
  | _, _, .ptr o e => .ptr o (h _ _ e)
  | _, _, .snil => .snil
  | _, _, .slice o len cap cap' e hc hl hs => .slice o len cap cap' (h _ _ e) hc hl hs
  | _, _, .slice0 o o' cap' e hs => .slice0 o o' cap' (h _ _ e) hs
  | _, _, .mnil => .mnil
  | _, _, .map e => .map (h _ _ e)
  | _, _, .func fn a b => .func fn (VRs.mono h a) (VRs.mono h b)
  | _, _, .fnil => .fnil
  | _, _, .iface t a => .iface t (VR.mono h a)
  | _, _, .inil => .inil
  | _, _, .agg a => .agg (VRs.mono h a)
  | _, _, .tuple a => .tuple (VRs.mono h a)
  | _, _, .unkI n => .unkI n
  | _, _, .unkS s => .unkS s
  | _, _, .unkB b => .unkB b
  | _, _, .unkL a n c => .unkL a n c
theorem VRs.mono {ρ σ : Ren} (h : ρ.le σ) : ∀ {l l' : List Value}, VRs ρ l l' → VRs σ l l'
  | _, _, .nil => .nil
  | _, _, .cons a b => .cons (VR.mono h a) (VRs.mono h b)
end
theorem VRs.length {ρ : Ren} : ∀ {l l' : List Value}, VRs ρ l l' → l'.length = l.length
  | _, _, .nil => rfl
  | _, _, .cons _ b => by rw [List.length_cons, List.length_cons, b.length]
theorem VRs.get {ρ : Ren} : ∀ {l l' : List Value} (h : VRs ρ l l') (i : Nat) (v : Value), l[i]? = some v → ∃ v', l'[i]? = some v' ∧ VR ρ v v'
  | _, _, .nil, i, v, e => by simp at e
  | _, _, .cons a b, 0, v, e => by
    simp only [List.getElem?_cons_zero, Option.some.injEq] at e
    subst e; exact ⟨_, rfl, a⟩
  | _, _, .cons a b, i + 1, v, e => by
    simp only [List.getElem?_cons_succ] at e ⊢
    exact VRs.get b i v e
theorem VRs.append {ρ : Ren} : ∀ {l l' m m' : List Value}, VRs ρ l l' → VRs ρ m m' → VRs ρ (l ++ m) (l' ++ m')
  | _, _, _, _, .nil, h => h
  | _, _, _, _, .cons a b, h => .cons a (VRs.append b h)
theorem VRs.take {ρ : Ren} : ∀ {l l' : List Value} (n : Nat), VRs ρ l l' → VRs ρ (l.take n) (l'.take n)
  | _, _, 0, _ => by rw [List.take_zero, List.take_zero]; exact .nil
  | _, _, n + 1, .nil => .nil
  | _, _, n + 1, .cons a b => .cons a (VRs.take n b)
theorem VRs.drop {ρ : Ren} : ∀ {l l' : List Value} (n : Nat), VRs ρ l l' → VRs ρ (l.drop n) (l'.drop n)
  | _, _, 0, h => h
  | _, _, n + 1, .nil => .nil
  | _, _, n + 1, .cons a b => VRs.drop n b
theorem VRs.set {ρ : Ren} : ∀ {l l' : List Value} (n : Nat) {v v' : Value}, VRs ρ l l' → VR ρ v v' → VRs ρ (l.set n v) (l'.set n v')
  | _, _, _, _, _, .nil, _ => .nil
  | _, _, 0, _, _, .cons _ b, h => .cons h b
  | _, _, n + 1, _, _, .cons a b, h => .cons a (VRs.set n b h)
mutual
/-- A value without memory. -/
def flatV : Value → Bool
  | .bool _ | .int _ _ | .string _ | .pointer none | .map none | .nilFunc | .nilIface => true
  | .slice none 0 0 => true
  | .agg ⟨c⟩ => flatVs c
  | .tuple ⟨c⟩ => flatVs c
  | .iface _ v => flatV v
  | .func _ ⟨f⟩ ⟨c⟩ => flatVs f && flatVs c
  | _ => false
def flatVs : List Value → Bool
  | [] => true
  | v :: l => flatV v && flatVs l
end
mutual
theorem VR.refl {ρ : Ren} : ∀ (v : Value), flatV v = true → VR ρ v v
  | .bool b, _ => .bool b
  | .int k n, _ => .int k n
  | .string s, _ => .string s
  | .pointer none, _ => .pnil
  | .map none, _ => .mnil
  | .nilFunc, _ => .fnil
  | .nilIface, _ => .inil
  | .slice none 0 0, _ => .snil
  | .agg ⟨c⟩, h => .agg (VRs.refl c (by rw [flatV] at h; exact h))
  | .tuple ⟨c⟩, h => .tuple (VRs.refl c (by rw [flatV] at h; exact h))
  | .iface t v, h => .iface t (VR.refl v (by rw [flatV] at h; exact h))
  | .func fn ⟨f⟩ ⟨c⟩, h => by
    rw [flatV, Bool.and_eq_true] at h
    exact .func fn (VRs.refl f h.1) (VRs.refl c h.2)
  | .pointer (some _), h => by simp [flatV] at h
  | .map (some _), h => by simp [flatV] at h
  | .slice (some _) _ _, h => by simp [flatV] at h
  | .slice none (_ + 1) _, h => by simp [flatV] at h
  | .slice none 0 (_ + 1), h => by simp [flatV] at h
  | .float _ _, h => by simp [flatV] at h
  | .complex _ _ _, h => by simp [flatV] at h
  | .chan _, h => by simp [flatV] at h
theorem VRs.refl {ρ : Ren} : ∀ (l : List Value), flatVs l = true → VRs ρ l l
  | [], _ => .nil
  | v :: l, h => by
    rw [flatVs, Bool.and_eq_true] at h
    exact .cons (VR.refl v h.1) (VRs.refl l h.2)
end
end Go.Ev
namespace Go.Ev
open Go.RowKit

/-- A byte, as a cell holds it. -/
def byteV (b : UInt8) : Value := .int .u8 b.toNat
inductive AObj where
  | cells (c : List Value) (e : TypeId) (z : Nat)
  | map (es : List (Value × Value × Nat)) (clock : Nat)
  | iter (s : ByteArray) (pos : Nat)
  | buf (l : List UInt8) (e : TypeId)
  | dead
/-- The names below 'ro' are for reading alone. -/
structure H where
  tab : T AObj
  next : Nat
  ro : Nat
namespace H
def empty : H := ⟨.leaf, 0, 0⟩
def get (h : H) (b : Nat) : Option AObj := h.tab.get b
def set (h : H) (b : Nat) (o : AObj) : H := ⟨h.tab.put (b + 1) b o, h.next, h.ro⟩
def new (h : H) (o : AObj) : H := ⟨h.tab.put (h.next + 1) h.next o, h.next + 1, h.ro⟩
theorem get_set_same (h : H) (b : Nat) (o : AObj) : (h.set b o).get b = some o := T.get_put_same _ _ _ _ (by omega)
theorem get_set_ne (h : H) {b c : Nat} (o : AObj) (hn : c ≠ b) : (h.set b o).get c = h.get c := T.get_put_ne _ _ _ _ _ hn
theorem get_new_same (h : H) (o : AObj) : (h.new o).get h.next = some o := T.get_put_same _ _ _ _ (by omega)
theorem get_new_ne (h : H) {c : Nat} (o : AObj) (hn : c ≠ h.next) : (h.new o).get c = h.get c := T.get_put_ne _ _ _ _ _ hn
end H
inductive EsR (ρ : Ren) : List (Value × Value × Nat) → List MapEntry → Prop
  | nil : EsR ρ [] []
  | cons {k v v' : Value} {n : Nat} {l : List (Value × Value × Nat)} {l' : List MapEntry} (hk : flatV k = true) (h : VR ρ v v') (t : EsR ρ l l') : EsR ρ ((k, v, n) :: l) (⟨k, v', n⟩ :: l')
theorem EsR.mono {ρ σ : Ren} (h : ρ.le σ) : ∀ {l : List (Value × Value × Nat)} {l' : List MapEntry}, EsR ρ l l' → EsR σ l l'
  | _, _, .nil => .nil
  | _, _, .cons hk a t => .cons hk (a.mono h) (EsR.mono h t)
/-- No cell of the array is frozen (a text's bytes have the cell behind their end frozen). -/
def FrOk (fr : Nat × Nat) (n : Nat) : Prop := fr = (0, 0) ∨ n ≤ fr.1
/-- How an object stands to what lies in the block it is told to lie in, from cell O on. -/
def OR (ρ : Ren) (blk : Option Obj) (p : Spot) : AObj → Prop
  | .cells c e z => ∃ c' : Array Value, (∃ fr, blk = some (.cells c' e fr) ∧ FrOk fr c'.size) ∧ p.O + c.length ≤ c'.size ∧ (∀ i v, c[i]? = some v → ∃ v', c'[p.O + i]? = some v' ∧ VR ρ v v') ∧ c'.size = p.S ∧ z = p.z ∧ (z = 0 → p.O = 0 ∧ c'.size = c.length)
  | .map es clock => ∃ es' : List MapEntry, blk = some (.map ⟨es'⟩ clock) ∧ EsR ρ es es'
  | .iter s pos => blk = some (.stringIter s pos) ∧ p.O = 0
  | .buf l e => ∃ c' : Array Value, (∃ fr, blk = some (.cells c' e fr) ∧ (fr.1 = fr.2 ∨ fr.2 ≤ l.length)) ∧ l.length ≤ c'.size ∧ (∀ (i : Nat) (x : UInt8), l[i]? = some x → c'[i]? = some (byteV x)) ∧ c'.size = p.S ∧ p.O = 0 ∧ p.z = 1
  | .dead => True
theorem OR.mono {ρ σ : Ren} (h : ρ.le σ) {blk : Option Obj} {p : Spot} : ∀ {o : AObj}, OR ρ blk p o → OR σ blk p o
  | .cells _ _ _, ⟨c', e, hs, hv, hz⟩ => ⟨c', e, hs, fun i v hi => let ⟨v', h1, h2⟩ := hv i v hi; ⟨v', h1, h2.mono h⟩, hz⟩
  | .map _ _, ⟨es', e, he⟩ => ⟨es', e, he.mono h⟩
  | .iter _ _, h' => h'
  | .buf _ _, h' => h'
  | .dead, _ => trivial
/-- What a reckoning begins with: the world; the blocks that are none of its own; the names that are for reading alone, where they lie and what they hold. -/
structure Base where
  w : World
  F : Nat → Prop
  lt : ∀ k, F k → k < w.heap.size
  nb : Nat
  ρ : Ren
  g : Nat → Option AObj
/-- What is not the reckoning's own is as it was. -/
structure Base.Kept (β : Base) (w : World) : Prop where
  os : w.os = β.w.os
  tape : w.tape = β.w.tape
  output : w.output = β.w.output
  size : β.w.heap.size ≤ w.heap.size
  block : ∀ k, β.F k → w.heap[k]? = β.w.heap[k]?
theorem Base.Kept.trans {β : Base} {w w' : World} (h : β.Kept w) (hb : Below w.heap.size w w') : β.Kept w' :=
  ⟨hb.os.trans h.os, hb.tape.trans h.tape, hb.output.trans h.output, Nat.le_trans h.size hb.size, fun k hk => by rw [hb.block k (Nat.lt_of_lt_of_le (β.lt k hk) h.size), h.block k hk]⟩
/-- All that is there is none of the reckoning's own. -/
def Base.all (w : World) : Base := ⟨w, fun k => k < w.heap.size, fun _ h => h, 0, fun _ => none, fun _ => none⟩
theorem Base.all_kept {w w' : World} : (Base.all w).Kept w' ↔ Below w.heap.size w w' :=
  ⟨fun h => ⟨h.os, h.tape, h.output, h.size, h.block⟩, fun h => ⟨h.os, h.tape, h.output, h.size, h.block⟩⟩
/-- The evaluator's heap h stands to the world w, which began as the base tells. -/
structure HR (ρ : Ren) (h : H) (w0 : Base) (w : World) : Prop where
  live : ∀ b o, h.get b = some o → o ≠ .dead → ∃ p, ρ b = some p ∧ ¬ w0.F p.B ∧ p.B < w.heap.size ∧ OR ρ w.heap[p.B]? p o
  apart : ∀ b b' o o' x x', h.get b = some o → o ≠ .dead → h.get b' = some o' → o' ≠ .dead → ρ b = some x → ρ b' = some x' → b ≠ b' → x.B ≠ x'.B
  fresh : ∀ b, h.next ≤ b → ρ b = none
  known : ∀ b, h.next ≤ b → h.get b = none
  low : w0.Kept w
  nb : w0.nb ≤ h.next
  ro : h.ro = w0.nb
  old : ∀ b, b < w0.nb → ρ b = w0.ρ b
  keep : ∀ b, b < w0.nb → h.get b = w0.g b
theorem HR.start (w : World) : HR (fun _ => none) H.empty (.all w) w :=
  ⟨fun b o h => by simp [H.empty, H.get, T.get_leaf] at h, fun b b' o o' x x' h => by simp [H.empty, H.get, T.get_leaf] at h, fun _ _ => rfl, fun b _ => by simp [H.empty, H.get, T.get_leaf], Base.all_kept.2 (Below.refl _ _), Nat.le_refl _, rfl, fun b h => absurd h (Nat.not_lt_zero _), fun b h => absurd h (Nat.not_lt_zero _)⟩
/-- The blocks from the base on that the evaluator knows are as they were. -/
theorem HR.of_same {ρ : Ren} {h : H} {w0 : Base} {w w' : World} (r : HR ρ h w0 w) (hb : Below w.heap.size w w') : HR ρ h w0 w' :=
  ⟨fun b o hg hd => by
    obtain ⟨p, h1, h2, h3, h4⟩ := r.live b o hg hd
    refine ⟨p, h1, h2, Nat.lt_of_lt_of_le h3 hb.size, ?_⟩
    rw [hb.block p.B h3]; exact h4, r.apart, r.fresh, r.known, r.low.trans hb, r.nb, r.ro, r.old, r.keep⟩
theorem HR.drew {ρ : Ren} {h : H} {w0 : Base} {w : World} (r : HR ρ h w0 w) (n : Nat) : HR ρ h w0 { w with drawn := n } := r.of_same ⟨rfl, rfl, rfl, Nat.le_refl _, fun _ _ => rfl⟩
theorem HR.load {ρ : Ren} {h : H} {w0 : Base} {w : World} (r : HR ρ h w0 w) {b : Nat} {c : List Value} {e : TypeId} {z : Nat} (hg : h.get b = some (.cells c e z)) {p : Spot} (hρ : ρ b = some p) {i : Nat} {v : Value} (hi : c[i]? = some v) :
    ∃ v', w.cell? ⟨p.B, p.O + i, none⟩ = some v' ∧ VR ρ v v' := by
  obtain ⟨p', h1, _, _, c', h4, _, h6, _⟩ := r.live b _ hg (by simp)
  obtain rfl : p = p' := by rw [hρ] at h1; exact Option.some.inj h1
  obtain ⟨v', h7, h8⟩ := h6 i v hi
  obtain ⟨fr, h4, _⟩ := h4
  refine ⟨v', ?_, h8⟩
  unfold World.cell?
  simp only [h4]
  simpa using h7
theorem HR.frozen {ρ : Ren} {h : H} {w0 : Base} {w : World} (r : HR ρ h w0 w) {b : Nat} {c : List Value} {e : TypeId} {z : Nat} (hg : h.get b = some (.cells c e z)) {p : Spot} (hρ : ρ b = some p) {i : Nat} (hi : i < c.length) : w.frozen? ⟨p.B, p.O + i, none⟩ = false := by
  obtain ⟨p', h1, _, _, c', ⟨fr, h4, hfr⟩, h5, _⟩ := r.live b _ hg (by simp)
  obtain rfl : p = p' := by rw [hρ] at h1; exact Option.some.inj h1
  unfold World.frozen?
  simp only [h4]
  rcases hfr with rfl | hfr
  · simp
  · have : ¬ (fr.1 ≤ p.O + i) := by omega
    simp [this]
theorem HR.place {ρ : Ren} {h : H} {w0 : Base} {w : World} (r : HR ρ h w0 w) {b : Nat} {o : AObj} (hg : h.get b = some o) (hd : o ≠ .dead) : ∃ p, ρ b = some p :=
  let ⟨p, h1, _⟩ := r.live b o hg hd; ⟨p, h1⟩
/-- One block's content turns, in its own place; all else is as it was. -/
theorem HR.turn {ρ : Ren} {h : H} {w0 : Base} {w w' : World} (r : HR ρ h w0 w) {b : Nat} {o o' : AObj} (hg : h.get b = some o) (hd : o ≠ .dead) (hro : h.ro ≤ b) {p : Spot} (hρ : ρ b = some p)
    (hs : w'.heap.size = w.heap.size) (hk : ∀ k, k ≠ p.B → w'.heap[k]? = w.heap[k]?) (ht : w'.os = w.os ∧ w'.tape = w.tape ∧ w'.output = w.output) (ho : OR ρ w'.heap[p.B]? p o') : HR ρ (h.set b o') w0 w' := by
  obtain ⟨p', h1, h2, h3, _⟩ := r.live b _ hg hd
  obtain rfl : p = p' := by rw [hρ] at h1; exact Option.some.inj h1
  have hlt : b < h.next := Nat.lt_of_not_le fun g => by have := r.known b g; rw [hg] at this; simp at this
  refine ⟨fun c q hq hqd => ?_, fun c c' q q' x x' hq hqd hq' hqd' hx hx' hne => ?_, fun c hc => r.fresh c hc, fun c hc => ?_, ?_, r.nb, r.ro, r.old, fun c hc => ?_⟩
  · by_cases e : c = b
    · subst e
      rw [H.get_set_same] at hq
      obtain rfl := Option.some.inj hq
      exact ⟨p, hρ, h2, by rw [hs]; exact h3, ho⟩
    · rw [H.get_set_ne _ _ e] at hq
      obtain ⟨C, g1, g2, g3, g4⟩ := r.live c q hq hqd
      refine ⟨C, g1, g2, by rw [hs]; exact g3, ?_⟩
      have := r.apart c b q o _ _ hq hqd hg hd g1 hρ e
      rw [hk C.B this]; exact g4
  · have back : ∀ (d : Nat) (q : AObj), (h.set b o').get d = some q → ∃ q2, h.get d = some q2 ∧ (q ≠ .dead → q2 ≠ .dead) := fun d q hq => by
      by_cases e : d = b
      · subst e; exact ⟨o, hg, fun _ => hd⟩
      · rw [H.get_set_ne _ _ e] at hq; exact ⟨q, hq, id⟩
    obtain ⟨q2, k1, k2⟩ := back c q hq
    obtain ⟨q3, k3, k4⟩ := back c' q' hq'
    exact r.apart c c' q2 q3 x x' k1 (k2 hqd) k3 (k4 hqd') hx hx' hne
  · rw [H.get_set_ne _ _ (by show c ≠ b; have : h.next ≤ c := hc; omega)]; exact r.known c hc
  · exact ⟨ht.1.trans r.low.os, ht.2.1.trans r.low.tape, ht.2.2.trans r.low.output, by rw [hs]; exact r.low.size, fun k hk' => by rw [hk k (fun e => h2 (e ▸ hk')), r.low.block k hk']⟩
  · rw [H.get_set_ne _ _ (by rw [r.ro] at hro; omega)]; exact r.keep c hc
/-- One block's content turns, but not in what is known of it. -/
theorem HR.turnSame {ρ : Ren} {h : H} {w0 : Base} {w w' : World} (r : HR ρ h w0 w) {b : Nat} {o : AObj} (hg : h.get b = some o) (hd : o ≠ .dead) {p : Spot} (hρ : ρ b = some p)
    (hs : w'.heap.size = w.heap.size) (hk : ∀ k, k ≠ p.B → w'.heap[k]? = w.heap[k]?) (ht : w'.os = w.os ∧ w'.tape = w.tape ∧ w'.output = w.output) (ho : OR ρ w'.heap[p.B]? p o) : HR ρ h w0 w' := by
  obtain ⟨p', h1, h2, h3, _⟩ := r.live b _ hg hd
  obtain rfl : p = p' := by rw [hρ] at h1; exact Option.some.inj h1
  refine ⟨fun c q hq hqd => ?_, r.apart, r.fresh, r.known, ⟨ht.1.trans r.low.os, ht.2.1.trans r.low.tape, ht.2.2.trans r.low.output, by rw [hs]; exact r.low.size, fun k hk' => by rw [hk k (fun e => h2 (e ▸ hk')), r.low.block k hk']⟩, r.nb, r.ro, r.old, r.keep⟩
  by_cases e : c = b
  · subst e
    rw [hg] at hq
    obtain rfl := Option.some.inj hq
    exact ⟨p, hρ, h2, by rw [hs]; exact h3, ho⟩
  · obtain ⟨C, g1, g2, g3, g4⟩ := r.live c q hq hqd
    refine ⟨C, g1, g2, by rw [hs]; exact g3, ?_⟩
    have := r.apart c b q o _ _ hq hqd hg hd g1 hρ e
    rw [hk C.B this]; exact g4
theorem HR.store {ρ : Ren} {h : H} {w0 : Base} {w : World} (r : HR ρ h w0 w) {b : Nat} {c : List Value} {e : TypeId} {z : Nat} (hg : h.get b = some (.cells c e z)) {p : Spot} (hρ : ρ b = some p) {i : Nat} (hi : i < c.length) (hro : h.ro ≤ b) {v v' : Value} (hv : VR ρ v v') :
    HR ρ (h.set b (.cells (c.set i v) e z)) w0 (w.setCell ⟨p.B, p.O + i, none⟩ v') := by
  obtain ⟨p', h1, h2, h3, c', ⟨fr, h4, hfr⟩, h5, h6, h7, h8⟩ := r.live b _ hg (by simp)
  obtain rfl : p = p' := by rw [hρ] at h1; exact Option.some.inj h1
  refine r.turn hg (by simp) hro hρ (by simp [World.setCell]) (fun k hk => Below.heap_setCell _ _ _ _ hk) ⟨rfl, rfl, rfl⟩ ⟨c'.setIfInBounds (p.O + i) v', ⟨fr, ?_, by rw [Array.size_setIfInBounds]; exact hfr⟩, ?_, ?_, by rw [Array.size_setIfInBounds]; exact h7, h8.1, fun hz => by rw [Array.size_setIfInBounds, List.length_set]; exact h8.2 hz⟩
  · have : (w.setCell ⟨p.B, p.O + i, none⟩ v').heap[p.B]? = (w.heap[p.B]?).map fun
      | .cells c elem frozen => .cells (c.setIfInBounds (p.O + i) v') elem frozen
      | o => o := by
      simp only [World.setCell, Array.getElem?_modify, if_true]
      cases w.heap[p.B]? with
      | none => rfl
      | some o => cases o <;> simp
    rw [this, h4]; rfl
  · rw [List.length_set, Array.size_setIfInBounds]; exact h5
  · intro j u hj
    by_cases e1 : j = i
    · subst e1
      rw [List.getElem?_set_self (by exact hi)] at hj
      obtain rfl := Option.some.inj hj
      exact ⟨v', by rw [Array.getElem?_setIfInBounds_self, if_pos (by omega)], hv⟩
    · rw [List.getElem?_set_ne (by omega)] at hj
      obtain ⟨u', g1, g2⟩ := h6 j u hj
      exact ⟨u', by rw [Array.getElem?_setIfInBounds_ne (by omega)]; exact g1, g2⟩
/-- The names with a new one. -/
def Ren.put (ρ : Ren) (b : Nat) (x : Spot) : Ren := fun c => if c = b then some x else ρ c
theorem Ren.le_put {ρ : Ren} {b : Nat} {x : Spot} (h : ρ b = none) : ρ.le (ρ.put b x) := fun c y e => by
  unfold Ren.put
  by_cases g : c = b
  · subst g; rw [h] at e; cases e
  · rw [if_neg g]; exact e
theorem Ren.put_same {ρ : Ren} {b : Nat} {x : Spot} : (ρ.put b x) b = some x := if_pos rfl
theorem HR.new {ρ : Ren} {h : H} {w0 : Base} {w : World} (r : HR ρ h w0 w) {o : AObj} {obj : Obj} {S z : Nat} (ho : OR ρ (some obj) ⟨w.heap.size, 0, S, z⟩ o) :
    HR (ρ.put h.next ⟨w.heap.size, 0, S, z⟩) (h.new o) w0 { w with heap := w.heap.push obj } := by
  have hle : ρ.le (ρ.put h.next ⟨w.heap.size, 0, S, z⟩) := Ren.le_put (r.fresh _ (Nat.le_refl _))
  refine ⟨fun c q hq hqd => ?_, fun c c' q q' x x' hq hqd hq' hqd' hx hx' hne => ?_, fun c hc => ?_, fun c hc => ?_, ?_, Nat.le_succ_of_le r.nb, r.ro, fun c hc => ?_, fun c hc => ?_⟩
  · by_cases e : c = h.next
    · subst e
      rw [H.get_new_same] at hq
      obtain rfl := Option.some.inj hq
      refine ⟨_, Ren.put_same, fun hF => absurd (Nat.lt_of_lt_of_le (w0.lt _ hF) r.low.size) (Nat.lt_irrefl _), by simp, ?_⟩
      show OR _ (w.heap.push obj)[w.heap.size]? _ _
      rw [show (w.heap.push obj)[w.heap.size]? = some obj by simp]
      exact ho.mono hle
    · rw [H.get_new_ne _ _ e] at hq
      obtain ⟨C, g1, g2, g3, g4⟩ := r.live c q hq hqd
      refine ⟨C, hle _ _ g1, g2, by simp; omega, ?_⟩
      show OR _ (w.heap.push obj)[C.B]? _ _
      rw [show (w.heap.push obj)[C.B]? = w.heap[C.B]? by rw [Array.getElem?_push, if_neg (by omega)]]
      exact g4.mono hle
  · have at_ : ∀ (d : Nat) (q : AObj) (y : Spot), (h.new o).get d = some q → q ≠ .dead → (ρ.put h.next ⟨w.heap.size, 0, S, z⟩) d = some y → (d = h.next ∧ y.B = w.heap.size) ∨ (d ≠ h.next ∧ h.get d = some q ∧ ρ d = some y ∧ y.B < w.heap.size) := fun d q y hq hqd hy => by
      by_cases e : d = h.next
      · subst e; rw [Ren.put_same] at hy; obtain rfl := Option.some.inj hy; exact .inl ⟨rfl, rfl⟩
      · rw [H.get_new_ne _ _ e] at hq
        unfold Ren.put at hy
        rw [if_neg e] at hy
        obtain ⟨C, g1, g2, g3, g4⟩ := r.live d q hq hqd
        rw [hy] at g1
        obtain rfl := Option.some.inj g1
        exact .inr ⟨e, hq, hy, g3⟩
    rcases at_ c q x hq hqd hx with ⟨e1, e2⟩ | ⟨e1, e2, e3, e4⟩ <;> rcases at_ c' q' x' hq' hqd' hx' with ⟨f1, f2⟩ | ⟨f1, f2, f3, f4⟩
    · omega
    · omega
    · omega
    · exact r.apart c c' q q' x x' e2 hqd f2 hqd' e3 f3 hne
  · have : h.next + 1 ≤ c := hc
    unfold Ren.put
    rw [if_neg (by omega)]; exact r.fresh c (by omega)
  · have : h.next + 1 ≤ c := hc
    rw [H.get_new_ne _ _ (by omega)]; exact r.known c (by omega)
  · exact r.low.trans ⟨rfl, rfl, rfl, by simp, fun k hk => by show (w.heap.push obj)[k]? = _; rw [Array.getElem?_push, if_neg (by omega)]⟩
  · have := r.nb
    unfold Ren.put
    rw [if_neg (by omega)]; exact r.old c hc
  · have := r.nb
    rw [H.get_new_ne _ _ (by omega)]; exact r.keep c hc
/-- A block that is given up. -/
theorem HR.kill {ρ : Ren} {h : H} {w0 : Base} {w : World} (r : HR ρ h w0 w) {b : Nat} (hlt : b < h.next) (hro : h.ro ≤ b) : HR ρ (h.set b .dead) w0 w := by
  have back : ∀ (d : Nat) (q : AObj), (h.set b .dead).get d = some q → q ≠ .dead → h.get d = some q := fun d q hq hqd => by
    by_cases e : d = b
    · subst e; rw [H.get_set_same] at hq; exact absurd (Option.some.inj hq).symm hqd
    · rwa [H.get_set_ne _ _ e] at hq
  exact ⟨fun c q hq hqd => r.live c q (back c q hq hqd) hqd, fun c c' q q' x x' hq hqd hq' hqd' => r.apart c c' q q' x x' (back c q hq hqd) hqd (back c' q' hq' hqd') hqd', r.fresh, fun c hc => by
    have : h.next ≤ c := hc
    rw [H.get_set_ne _ _ (by omega)]; exact r.known c hc, r.low, r.nb, r.ro, r.old, fun c hc => by
    rw [H.get_set_ne _ _ (by rw [r.ro] at hro; omega)]; exact r.keep c hc⟩
end Go.Ev
namespace Go.Ev
structure TI where
  zero : Value
  size : Nat
  bytes : Nat
/-- Functions without a body that the evaluator knows. -/
inductive ExtOp where
  | same | indexByte | count | add64 | sub64
def ExtOp.row : ExtOp → (Array Value → Sem Value)
  | .same => Extern.AbiNoEscape.same
  | .indexByte => Extern.BytealgIndexByte.indexByte
  | .count => Extern.BytealgCount.count
  | .add64 => fun args => do
      let (x, y, c) ← Extern.MathBitsCarry.three "Add64" args
      pure (Extern.MathBitsCarry.pair ((x + y + c) % Extern.MathBitsCarry.m64) ((x + y + c) / Extern.MathBitsCarry.m64))
  | .sub64 => fun args => do
      let (x, y, b) ← Extern.MathBitsCarry.three "Sub64" args
      pure (Extern.MathBitsCarry.pair ((x + Extern.MathBitsCarry.m64 - y - b) % Extern.MathBitsCarry.m64) (if x < y + b then 1 else 0))
def ExtOk (P : Program) (f : FuncId) (k : ExtOp) : Prop := ∃ fn, P.funcs[f]? = some fn ∧ (fn.name == "runtime.NumGoroutine") = false ∧ fn.body.isNone = true ∧ Extern.findNext fn = none ∧ Extern.find fn = some k.row
/-- What the evaluator is told of the program. -/
structure Env where
  under : TypeId → Option TypeDesc
  info : TypeId → Option TI
  fn : FuncId → Option Func
  /-- A type whose values are compared part by part. -/
  plain : TypeId → Bool
  /-- Which variable begins at a place of a block, seen as another type. -/
  lies : TypeId → Nat → Nat → TypeId → Bool
  /-- Functions without a body. -/
  ext : FuncId → Option ExtOp
structure EnvOk (P : Program) (E : Env) : Prop where
  under : ∀ t d, E.under t = some d → P.underlying t = some d
  info : ∀ t i, E.info t = some i → ∃ j, P.info? t = some j ∧ j.zero = some i.zero ∧ j.size = i.size ∧ j.bytes = i.bytes
  fn : ∀ f g, E.fn f = some g → P.funcs[f]? = some g
  plain : ∀ t, E.plain t = true → P.stoodInHeld t = false ∧ P.eqGuardType P.depth t = false
  lies : ∀ e n o u, E.lies e n o u = true → liesAt P P.depth e (n / P.cellsOf e) o u 1 = true
  ext : ∀ f k, E.ext f = some k → ExtOk P f k
  mixed : P.follows .mixedOrders = true

end Go.Ev
namespace Go.Ev
theorem run_size {P : Program} {E : Env} (hE : EnvOk P E) {t : TypeId} {i : TI} (h : E.info t = some i) (w : World) : (sizeOf t).run P w = .ok i.size w := by
  obtain ⟨j, h1, h2, h3, h4⟩ := hE.info t i h
  simp [sizeOf, typeInfo, h1, h3]
theorem run_bytes {P : Program} {E : Env} (hE : EnvOk P E) {t : TypeId} {i : TI} (h : E.info t = some i) (w : World) : ∃ j, (typeInfo t).run P w = .ok j w ∧ j.bytes = i.bytes ∧ j.size = i.size ∧ j.zero = some i.zero := by
  obtain ⟨j, h1, h2, h3, h4⟩ := hE.info t i h
  exact ⟨j, by simp [typeInfo, h1], h4, h3, h2⟩
theorem run_zero {P : Program} {E : Env} (hE : EnvOk P E) {t : TypeId} {i : TI} (h : E.info t = some i) (w : World) : (zeroValue t).run P w = .ok i.zero w := by
  obtain ⟨j, h1, h2, h3, h4⟩ := hE.info t i h
  simp [zeroValue, typeInfo, h1, h2]
def isRow : TypeDesc → Bool
  | .struct _ | .array _ _ => true
  | _ => false
theorem run_agg {P : Program} {E : Env} (hE : EnvOk P E) {t : TypeId} {d : TypeDesc} (h : E.under t = some d) (w : World) : (isAgg t).run P w = .ok (isRow d) w := by
  have hr := run_underlying (P := P) (hE.under t d h) w
  cases d <;> simp [isAgg, hr, isRow]
/-- A part of a struct's or an array's cells. -/
def partV (E : Env) (t : TypeId) (cs : List Value) (off : Nat) : Option Value :=
  match E.under t with
  | none => none
  | some d => if isRow d then (match E.info t with
      | none => none
      | some i => some (.agg ⟨(cs.drop off).take i.size⟩))
    else cs[off]?
theorem partV_ok {P : Program} {E : Env} (hE : EnvOk P E) {ρ : Ren} {t : TypeId} {cs cs' : List Value} {off : Nat} {v : Value} (h : partV E t cs off = some v) (hc : VRs ρ cs cs') : ∃ v', VR ρ v v' ∧ ∀ w, (part t ⟨cs'⟩ off).run P w = .ok v' w := by
  unfold partV at h
  cases hu : E.under t with
  | none => rw [hu] at h; cases h
  | some d =>
    rw [hu] at h
    simp only at h
    by_cases c : isRow d = true
    · rw [if_pos c] at h
      cases hi : E.info t with
      | none => rw [hi] at h; cases h
      | some i =>
        rw [hi] at h
        obtain rfl := Option.some.inj h
        refine ⟨_, .agg ((hc.drop off).take i.size), fun w => ?_⟩
        have e : (⟨cs'⟩ : Array Value).extract off (off + i.size) = ⟨(cs'.drop off).take i.size⟩ := by
          apply Array.toList_inj.1
          simp [List.extract_eq_take_drop]
        simp [part, run_agg hE hu, c, run_size hE hi, e]
    · rw [if_neg c] at h
      obtain ⟨v', h1, h2⟩ := hc.get off v h
      refine ⟨v', h2, fun w => ?_⟩
      have : (⟨cs'⟩ : Array Value)[off]? = some v' := by simpa using h1
      simp [part, run_agg hE hu, c, this]
theorem add_mid (b o j : Nat) : (⟨b, o, none⟩ : Addr).add j = ⟨b, o + j, none⟩ := by unfold Addr.add; split <;> simp_all
/-- A field's place. -/
def fieldAtV (E : Env) (s : TypeId) (x : Value) (f : Nat) : Option Value :=
  match E.under s, x with
  | some (.struct fs), .pointer (some ⟨b, o, none⟩) => match fs[f]? with
    | none => none
    | some fl => match E.info fl.type with
      | none => none
      | some i => if i.size = 0 then none else some (.pointer (some ⟨b, o + fl.offset, none⟩))
  | _, _ => none
theorem fieldAtV_ok {P : Program} {E : Env} (hE : EnvOk P E) {ρ : Ren} {s : TypeId} {x x' v : Value} {f : Nat} (h : fieldAtV E s x f = some v) (hx : VR ρ x x') : ∃ v', VR ρ v v' ∧ ∀ w, (Instr.fieldAt s x' f).run P w = .ok v' w := by
  unfold fieldAtV at h
  split at h
  · rename_i fs b o hu
    split at h
    · cases h
    · rename_i fl hf
      split at h
      · cases h
      · rename_i i hi
        split at h
        · cases h
        · rename_i hz
          obtain rfl := Option.some.inj h
          cases hx with
          | @ptr _ p _ hρ =>
            refine ⟨_, .ptr (o + fl.offset) hρ, fun w => ?_⟩
            have hr := fun w => run_underlying (P := P) (hE.under s _ hu) w
            simp [Instr.fieldAt, hr, hf, Instr.sureAddr, fieldPlace, run_size hE hi, hz, add_mid, Nat.add_assoc]
  · cases h
def fieldV (E : Env) (s : TypeId) (x : Value) (f : Nat) : Option Value :=
  match E.under s, x with
  | some (.struct fs), .agg ⟨cs⟩ => match fs[f]? with
    | none => none
    | some fl => partV E fl.type cs fl.offset
  | _, _ => none
theorem fieldV_ok {P : Program} {E : Env} (hE : EnvOk P E) {ρ : Ren} {s : TypeId} {x x' v : Value} {f : Nat} (h : fieldV E s x f = some v) (hx : VR ρ x x') : ∃ v', VR ρ v v' ∧ ∀ w, (Instr.field s x' f).run P w = .ok v' w := by
  unfold fieldV at h
  split at h
  · rename_i fs cs hu
    split at h
    · cases h
    · rename_i fl hf
      cases hx with
      | agg hc =>
        obtain ⟨v', h1, h2⟩ := partV_ok hE h hc
        refine ⟨v', h1, fun w => ?_⟩
        have hr := fun w => run_underlying (P := P) (hE.under s _ hu) w
        simp [Instr.field, hr, hf, asAgg, h2]
  · cases h
/-- An element, of a text or of an array. -/
def indexV (E : Env) (t : TypeId) (x i : Value) : Option Value :=
  match E.under t, x, i with
  | some .string, .string s, .int _ n => if 0 ≤ n then (s[n.toNat]?).map fun b => .int .u8 b.toNat else none
  | some (.array len elem), .agg ⟨cs⟩, .int _ n => if 0 ≤ n ∧ n < len then (match E.info elem with
      | none => none
      | some j => partV E elem cs (n.toNat * j.size)) else none
  | _, _, _ => none
theorem indexV_ok {P : Program} {E : Env} (hE : EnvOk P E) {ρ : Ren} {t : TypeId} {x x' i i' v : Value} (h : indexV E t x i = some v) (hx : VR ρ x x') (hi : VR ρ i i') : ∃ v', VR ρ v v' ∧ ∀ w, (Instr.index t x' i').run P w = .ok v' w := by
  unfold indexV at h
  split at h
  · rename_i s k n hu
    cases hx; cases hi
    split at h
    · rename_i c
      cases hb : s[n.toNat]? with
      | none => rw [hb] at h; simp at h
      | some b =>
        rw [hb] at h
        obtain rfl := Option.some.inj h
        refine ⟨_, .int .u8 b.toNat, fun w => ?_⟩
        have hr := fun w => run_underlying (P := P) (hE.under t _ hu) w
        simp [Instr.index, asIntOf, hr, c, hb]
    · cases h
  · rename_i len elem cs k n hu
    cases hi
    split at h
    · rename_i c
      cases hj : E.info elem with
      | none => rw [hj] at h; cases h
      | some j =>
        rw [hj] at h
        cases hx with
        | agg hc =>
          obtain ⟨v', h1, h2⟩ := partV_ok hE h hc
          refine ⟨v', h1, fun w => ?_⟩
          have hr := fun w => run_underlying (P := P) (hE.under t _ hu) w
          simp [Instr.index, asIntOf, hr, c, run_size hE hj, h2]
    · cases h
  · cases h
/-- An element's place. -/
def indexAtV (E : Env) (t : TypeId) (x i : Value) : Option Value :=
  match E.under t, x, i with
  | some (.slice elem), .slice (some ⟨b, o, none⟩) len _, .int _ n => if 0 ≤ n ∧ n < len then (match E.info elem with
      | none => none
      | some j => some (.pointer (some ⟨b, o + n.toNat * j.size, none⟩))) else none
  | some (.array len elem), .pointer (some ⟨b, o, none⟩), .int _ n => if 0 ≤ n ∧ n < len then (match E.info elem with
      | none => none
      | some j => some (.pointer (some ⟨b, o + n.toNat * j.size, none⟩))) else none
  | _, _, _ => none
theorem indexAtV_ok {P : Program} {E : Env} (hE : EnvOk P E) {ρ : Ren} {t : TypeId} {x x' i i' v : Value} (h : indexAtV E t x i = some v) (hx : VR ρ x x') (hi : VR ρ i i') : ∃ v', VR ρ v v' ∧ ∀ w, (Instr.indexAt t x' i').run P w = .ok v' w := by
  unfold indexAtV at h
  split at h
  · rename_i elem b o len cap k n hu
    cases hi
    split at h
    · rename_i c
      cases hj : E.info elem with
      | none => rw [hj] at h; cases h
      | some j =>
        rw [hj] at h
        obtain rfl := Option.some.inj h
        have hr := fun w => run_underlying (P := P) (hE.under t _ hu) w
        cases hx with
        | @slice _ p _ _ _ cap' hρ hc hl hs =>
          refine ⟨_, .ptr (o + n.toNat * j.size) hρ, fun w => ?_⟩
          simp [Instr.indexAt, asIntOf, hr, c, run_size hE hj, add_mid, Nat.add_assoc]
        | slice0 => have := c.2; have := c.1; omega
    · cases h
  · rename_i len elem b o k n hu
    cases hi
    split at h
    · rename_i c
      cases hj : E.info elem with
      | none => rw [hj] at h; cases h
      | some j =>
        rw [hj] at h
        obtain rfl := Option.some.inj h
        have hr := fun w => run_underlying (P := P) (hE.under t _ hu) w
        cases hx with
        | @ptr _ p _ hρ =>
          refine ⟨_, .ptr (o + n.toNat * j.size) hρ, fun w => ?_⟩
          simp [Instr.indexAt, asIntOf, hr, c, Instr.sureAddr, run_size hE hj, add_mid, Nat.add_assoc]
    · cases h
  · cases h
end Go.Ev
namespace Go.Ev
/-- Two whole numbers. -/
def intV (op : BinOp) (k : IntKind) (a b : Int) : Option Value :=
  match op with
  | .add => some (.int k (k.wrap (a + b)))
  | .sub => some (.int k (k.wrap (a - b)))
  | .mul => some (.int k (k.wrap (a * b)))
  | .quo => if b = 0 then none else some (.int k (k.wrap (a.tdiv b)))
  | .rem => if b = 0 then none else some (.int k (a.tmod b))
  | .eql => some (.bool (a == b))
  | .neq => some (.bool (a != b))
  | .lss => some (.bool (decide (a < b)))
  | .leq => some (.bool (decide (a ≤ b)))
  | .gtr => some (.bool (decide (a > b)))
  | .geq => some (.bool (decide (a ≥ b)))
  | .and => some (.int k (k.wrap (BitVec.ofInt k.bits a &&& BitVec.ofInt k.bits b).toNat))
  | .or => some (.int k (k.wrap (BitVec.ofInt k.bits a ||| BitVec.ofInt k.bits b).toNat))
  | .xor => some (.int k (k.wrap (BitVec.ofInt k.bits a ^^^ BitVec.ofInt k.bits b).toNat))
  | .andNot => some (.int k (k.wrap (BitVec.ofInt k.bits a &&& ~~~(BitVec.ofInt k.bits b)).toNat))
  | _ => none
/-- A shift. -/
def shiftV (op : BinOp) (k : IntKind) (a b : Int) : Option Value :=
  if b < 0 then none else
  match op with
  | .shl => some (.int k (k.wrap (a * 2 ^ (min b.toNat k.bits))))
  | .shr => some (.int k (a.fdiv (2 ^ (min b.toNat k.bits))))
  | _ => none
/-- Two texts. -/
def strV (op : BinOp) (a b : ByteArray) : Option Value :=
  match op with
  | .add => if a.size + b.size ≤ 1000000000 then some (.string (a ++ b)) else none
  | .eql => some (.bool (a.data.toList == b.data.toList))
  | .neq => some (.bool (!(a.data.toList == b.data.toList)))
  | .lss => some (.bool (Op.bytesLess a.data.toList b.data.toList))
  | .leq => some (.bool (Op.bytesLess a.data.toList b.data.toList || a.data.toList == b.data.toList))
  | .gtr => some (.bool (!(Op.bytesLess a.data.toList b.data.toList || a.data.toList == b.data.toList)))
  | .geq => some (.bool (!(Op.bytesLess a.data.toList b.data.toList)))
  | _ => none
/-- The fields of two structures. -/
def eqFs (E : Env) (rec_ : TypeId → Value → Value → Option Bool) (xs ys : List Value) : List Field → Option Bool
  | [] => some true
  | f :: fs => if f.name ≠ "_" then (match partV E f.type xs f.offset, partV E f.type ys f.offset with
      | some a, some b => match rec_ f.type a b with
        | some true => eqFs E rec_ xs ys fs
        | some false => some false
        | none => none
      | _, _ => none) else eqFs E rec_ xs ys fs
/-- Equality by a type. -/
def eqV (E : Env) : Nat → TypeId → Value → Value → Option Bool
  | 0, _, _, _ => none
  | n + 1, t, x, y =>
  match E.under t, x, y with
  | some .bool, .bool a, .bool b => some (a == b)
  | some (.int _), .int k a, .int k' b => if k = k' then some (a == b) else none
  | some .string, .string a, .string b => some (a.data.toList == b.data.toList)
  | some (.pointer _), .pointer none, .pointer b => some b.isNone
  | some (.pointer _), .pointer (some _), .pointer none => some false
  | some (.pointer te), .pointer (some ⟨b, o, none⟩), .pointer (some ⟨b', o', none⟩) => if b = b' then (match E.info te with
    | some j => if j.size = 0 then none else some (decide (o = o'))
    | none => none) else none
  | some (.slice _), .slice none _ _, .slice b _ _ => some b.isNone
  | some (.slice _), .slice (some _) _ _, .slice none _ _ => some false
  | some (.map _ _), .map none, .map b => some b.isNone
  | some (.map _ _), .map (some _), .map none => some false
  | some (.func _ _ _), .nilFunc, .nilFunc => some true
  | some (.func _ _ _), .nilFunc, .func _ _ _ => some false
  | some (.func _ _ _), .func _ _ _, .nilFunc => some false
  | some (.interface _), .iface _ _, .nilIface => some false
  | some (.interface _), .nilIface, .iface _ _ => some false
  | some (.interface ms), .nilIface, .nilIface => if ms.isEmpty = true then some true else none
  | some (.struct fs), .agg ⟨xs⟩, .agg ⟨ys⟩ => if E.plain t = true then eqFs E (eqV E n) xs ys fs.toList else none
  | _, _, _ => none
def isShift : BinOp → Bool
  | .shl | .shr => true
  | _ => false
def binV (E : Env) (op : BinOp) (t : TypeId) (x y : Value) : Option Value :=
  match x, y with
  | .int k a, .int k' b => if isShift op then shiftV op k a b else if k = k' then intV op k a b else none
  | .string a, .string b => strV op a b
  | .bool _, .bool _ | .pointer _, .pointer _ | .slice _ _ _, .slice _ _ _ | .map _, .map _ | .nilFunc, .nilFunc | .nilFunc, .func _ _ _ | .func _ _ _, .nilFunc | .iface _ _, .nilIface | .nilIface, .iface _ _ =>
    match op with
    | .eql => (eqV E 10 t x y).map .bool
    | .neq => (eqV E 10 t x y).map fun b => .bool (!b)
    | _ => none
  | .nilIface, .nilIface => (match E.under t, op with
    | some (.interface ms), .eql => if ms.isEmpty = true then some (.bool true) else none
    | some (.interface ms), .neq => if ms.isEmpty = true then some (.bool false) else none
    | _, _ => none)
  | .agg _, .agg _ => if E.plain t = true then (match op with
    | .eql => (eqV E 10 t x y).map .bool
    | .neq => (eqV E 10 t x y).map fun b => .bool (!b)
    | _ => none) else none
  | _, _ => none
theorem run_int (P : Program) (op : BinOp) (t : TypeId) (k : IntKind) (a b : Int) (v : Value) (h : intV op k a b = some v) (w : World) :
    (binOp op t (.int k a) (.int k b)).run P w = .ok v w := by
  cases op <;> simp only [intV, Option.some.injEq, reduceCtorEq] at h
  case quo => split at h <;> simp_all [binOp, Op.intDiv]
  case rem => split at h <;> simp_all [binOp, Op.intDiv]
  all_goals (subst h; simp [binOp, Op.intArith, Op.intCmp, Op.intBits]; try rfl)
theorem run_shift (P : Program) (op : BinOp) (t : TypeId) (k k' : IntKind) (a b : Int) (v : Value) (ho : isShift op = true) (h : shiftV op k a b = some v) (w : World) :
    (binOp op t (.int k a) (.int k' b)).run P w = .ok v w := by
  unfold shiftV at h
  split at h
  · cases h
  · rename_i hb
    cases op <;> simp [isShift] at ho <;> simp only [Option.some.injEq] at h <;> subst h <;> simp [binOp, Op.shift, hb]
theorem run_str (P : Program) (op : BinOp) (t : TypeId) (a b : ByteArray) (v : Value) (h : strV op a b = some v) (w : World) :
    (binOp op t (.string a) (.string b)).run P w = .ok v w := by
  cases op <;> simp only [strV, Option.some.injEq, reduceCtorEq] at h
  case add =>
    split at h
    · rename_i c
      obtain rfl := Option.some.inj h
      have : ¬ ((a.size + b.size : Nat) : Int) > IntKind.i64.max := by
        have e : IntKind.i64.max = 9223372036854775807 := by decide
        rw [e]; omega
      simp only [binOp, Op.stringOp]
      rw [if_neg this]; rfl
    · cases h
  all_goals (subst h; simp only [binOp, Op.stringOp, ByteArray.toList_eq]; rfl)
theorem eqFs_ok {P : Program} {E : Env} (hE : EnvOk P E) {ρ : Ren} {rec_ : TypeId → Value → Value → Option Bool} {d : Nat} {xs ys xs' ys' : List Value} (hx : VRs ρ xs xs') (hy : VRs ρ ys ys')
    (hr : ∀ t x y x' y' b, rec_ t x y = some b → VR ρ x x' → VR ρ y y' → ∀ w, (Op.equalIn d t x' y').run P w = .ok b w) : ∀ (fs : List Field) (b : Bool), eqFs E rec_ xs ys fs = some b → ∀ w, (Op.eqFields d ⟨xs'⟩ ⟨ys'⟩ fs).run P w = .ok b w
  | [], b, h, w => by
    simp only [eqFs, Option.some.injEq] at h
    subst h; simp [Op.eqFields]
  | f :: fs, b, h, w => by
    unfold eqFs at h
    unfold Op.eqFields
    split at h
    · rename_i hn
      rw [if_pos hn]
      split at h
      case h_2 => cases h
      rename_i a c ha hc
      obtain ⟨a', a1, a2⟩ := partV_ok (P := P) hE ha hx
      obtain ⟨c', c1, c2⟩ := partV_ok (P := P) hE hc hy
      simp only [Sem.run_bind, a2, c2, Result.andThen_ok]
      split at h
      · rename_i hrec
        rw [hr _ _ _ _ _ _ hrec a1 c1]
        simp only [Result.andThen_ok, Bool.not_true, Bool.false_eq_true, if_false]
        exact eqFs_ok hE hx hy hr fs b h w
      · rename_i hrec
        obtain rfl := Option.some.inj h
        rw [hr _ _ _ _ _ _ hrec a1 c1]
        simp
      · cases h
    · rename_i hn
      rw [if_neg hn]
      exact eqFs_ok hE hx hy hr fs b h w
theorem run_eqIn {P : Program} {E : Env} (hE : EnvOk P E) {ρ : Ren} : ∀ (n d : Nat), n ≤ d → ∀ (t : TypeId) (x y x' y' : Value) (b : Bool), eqV E n t x y = some b → VR ρ x x' → VR ρ y y' → ∀ w, (Op.equalIn d t x' y').run P w = .ok b w
  | 0, _, _, _, _, _, _, _, _, h, _, _, _ => by simp [eqV] at h
  | n + 1, 0, hd, _, _, _, _, _, _, _, _, _, _ => by omega
  | n + 1, d + 1, hd, t, x, y, x', y', b, h, hx, hy, w => by
    unfold eqV at h
    split at h
    case h_18 => cases h
    case h_17 =>
      rename_i fs xs ys hu
      split at h
      case isFalse => cases h
      rename_i hp
      have hP := hE.plain t hp
      have hP2 := hE.under t _ hu
      have hf : P.fieldsOf t = fs := by simp [Program.fieldsOf, hP2]
      cases hx with
      | agg hx =>
        cases hy with
        | agg hy =>
          rw [run_equalIn_struct w d t _ _ (by rw [hf]; exact hP2) hP.1, hf]
          exact eqFs_ok hE hx hy (fun t x y x' y' b => run_eqIn hE n d (by omega) t x y x' y' b) fs.toList b h w
    case h_2 =>
      rename_i k0 k a k' b0 hu
      split at h
      case isFalse => cases h
      rename_i hk
      subst hk
      obtain rfl := Option.some.inj h
      cases hx; cases hy
      exact run_equalIn_int w d t k k0 a b0 (hE.under t _ hu)
    case h_3 =>
      rename_i a b0 hu
      obtain rfl := Option.some.inj h
      cases hx; cases hy
      rw [run_equalIn_string w d t a b0 (hE.under t _ hu), ByteArray.toList_eq, ByteArray.toList_eq]
    case h_6 =>
      rename_i te b1 o b2 o2 hu
      have hsame : ∀ (a c : Addr), a.block = c.block → (sameAddr a c).run P w = .ok (a == c) w := fun a c e => by simp [sameAddr, e]
      split at h
      case isFalse => cases h
      rename_i hb
      subst hb
      split at h
      case h_2 => cases h
      rename_i j hj
      split at h
      case isTrue => cases h
      rename_i hsz
      obtain rfl := Option.some.inj h
      have hr := run_underlying (P := P) (hE.under t _ hu) w
      have hs := run_size (P := P) hE hj w
      cases hx with
      | @ptr _ p _ h1 =>
        cases hy with
        | @ptr _ q _ h2 =>
          obtain rfl : p = q := by rw [h1] at h2; exact Option.some.inj h2
          have := hsame ⟨p.B, p.O + o, none⟩ ⟨p.B, p.O + o2, none⟩ rfl
          have e : ((⟨p.B, p.O + o, none⟩ : Addr) == ⟨p.B, p.O + o2, none⟩) = decide (o = o2) := by
            by_cases g : o = o2
            · subst g; simp
            · have : ¬ ((⟨p.B, p.O + o, none⟩ : Addr) = ⟨p.B, p.O + o2, none⟩) := by simp; omega
              simp [g]
          simp [Op.equalIn, hr, hs, hsz, this, e]
    case h_16 =>
      rename_i ms hu
      have hr := run_underlying (P := P) (hE.under t _ hu) w
      split at h
      case isFalse => cases h
      obtain rfl := Option.some.inj h
      cases hx; cases hy
      simp [Op.equalIn, hr]
    all_goals
      rename_i hu
      have hr := run_underlying (P := P) (hE.under t _ hu) w
      obtain rfl := Option.some.inj h
      cases hx <;> cases hy <;> simp [Op.equalIn, hr]
theorem run_eq {P : Program} {E : Env} (hE : EnvOk P E) {ρ : Ren} {t : TypeId} {x y x' y' : Value} {b : Bool} (h : eqV E 10 t x y = some b) (hx : VR ρ x x') (hy : VR ρ y y') (w : World) :
    (Op.equal t x' y').run P w = .ok b w := run_eqIn hE 10 10000 (by decide) t x y x' y' b h hx hy w
theorem run_nil_nil {P : Program} {t : TypeId} {ms : Array (String × TypeId)} (hu : P.underlying t = some (.interface ms)) (hms : ms.isEmpty = true) (w : World) :
    (Op.equal t .nilIface .nilIface).run P w = .ok true w ∧ (Op.eqGuardIn Op.maxDepth t .nilIface .nilIface).run P w = .ok false w := by
  have hr := run_underlying (P := P) hu w
  have hm : Op.equal t .nilIface .nilIface = Op.equalIn (9999 + 1) t .nilIface .nilIface := rfl
  have hm2 : Op.eqGuardIn Op.maxDepth t .nilIface .nilIface = Op.eqGuardIn (9999 + 1) t .nilIface .nilIface := rfl
  rw [hm, hm2, Op.equalIn, Op.eqGuardIn]
  generalize 9999 = n
  constructor
  · simp [hr]
  · simp [hr]
    simpa using hms
theorem binV_ok {P : Program} {E : Env} (hE : EnvOk P E) {ρ : Ren} {op : BinOp} {t : TypeId} {x y x' y' v : Value} {xo yo : Operand} (h : binV E op t x y = some v) (hx : VR ρ x x') (hy : VR ρ y y') :
    VR ρ v v ∧ ∀ w, (do eqGuard op t xo yo x' y'; binOp op t x' y' : Sem Value).run P w = .ok v w := by
  have key : ∀ b, eqV E 10 t x y = some b → ∀ w, (Op.equal t x' y').run P w = .ok b w := fun b e w => run_eq hE e hx hy w
  unfold binV at h
  split at h
  · rename_i k a k' b
    cases hx; cases hy
    have hg : ∀ w, (eqGuard op t xo yo (.int k a) (.int k' b)).run P w = .ok () w := fun w => by cases op <;> simp [eqGuard]
    split at h
    · rename_i hs
      have hr := run_shift P op t k k' a b v hs h
      refine ⟨?_, fun w => by simp [hg, hr]⟩
      unfold shiftV at h
      split at h
      · cases h
      · cases op <;> simp at h <;> subst h <;> exact .int _ _
    split at h
    · rename_i c
      subst c
      have hr := run_int P op t k a b v h
      refine ⟨?_, fun w => by simp [hg, hr]⟩
      cases op <;> simp only [intV, Option.some.injEq, reduceCtorEq] at h <;> (try split at h) <;> (try cases h) <;> (try subst h) <;> first | exact .int _ _ | exact .bool _
    · cases h
  · rename_i a b
    cases hx; cases hy
    have hr := run_str P op t a b v h
    have hg : ∀ w, (eqGuard op t xo yo (.string a) (.string b)).run P w = .ok () w := fun w => by cases op <;> simp [eqGuard]
    refine ⟨?_, fun w => by simp [hg, hr]⟩
    cases op <;> simp only [strV, Option.some.injEq, reduceCtorEq] at h <;> (try split at h) <;> (try cases h) <;> (try subst h) <;> first | exact .string _ | exact .bool _
  case h_12 =>
    split at h
    · rename_i ms hu
      split at h
      case isFalse => cases h
      rename_i hms
      obtain rfl := Option.some.inj h
      refine ⟨.bool _, fun w => ?_⟩
      have hr := run_underlying (P := P) (hE.under t _ hu) w
      cases hx; cases hy
      obtain ⟨hq, hg⟩ := run_nil_nil (hE.under t _ hu) hms w
      simp only [eqGuard, binOp]
      cases xo <;> cases yo <;> simp [hg, hq]
    · rename_i ms hu
      split at h
      case isFalse => cases h
      rename_i hms
      obtain rfl := Option.some.inj h
      refine ⟨.bool _, fun w => ?_⟩
      have hr := run_underlying (P := P) (hE.under t _ hu) w
      cases hx; cases hy
      obtain ⟨hq, hg⟩ := run_nil_nil (hE.under t _ hu) hms w
      simp only [eqGuard, binOp]
      cases xo <;> cases yo <;> simp [hg, hq]
    · cases h
  case h_13 =>
    rename_i cx cy
    split at h
    case isFalse => cases h
    rename_i hp
    have hP := hE.plain t hp
    split at h
    · obtain ⟨b, he, rfl⟩ := Option.map_eq_some_iff.1 h
      refine ⟨.bool _, fun w => ?_⟩
      have hq := key b he w
      cases hx; cases hy
      have hg := run_eqGuard_agg (P := P) w .eql t xo yo
      simp [hg _ _ hP.2, binOp, hq]
    · obtain ⟨b, he, rfl⟩ := Option.map_eq_some_iff.1 h
      refine ⟨.bool _, fun w => ?_⟩
      have hq := key b he w
      cases hx; cases hy
      have hg := run_eqGuard_agg (P := P) w .neq t xo yo
      simp [hg _ _ hP.2, binOp, hq]
    · cases h
  all_goals first
    | (cases h; done)
    | (split at h
       · obtain ⟨b, he, rfl⟩ := Option.map_eq_some_iff.1 h
         refine ⟨.bool _, fun w => ?_⟩
         have hq := key b he w
         cases hx <;> cases hy <;> simp [eqGuard, binOp, hq]
       · obtain ⟨b, he, rfl⟩ := Option.map_eq_some_iff.1 h
         refine ⟨.bool _, fun w => ?_⟩
         have hq := key b he w
         cases hx <;> cases hy <;> simp [eqGuard, binOp, hq]
       · cases h)
end Go.Ev
namespace Go.Ev
/-- A bound: a whole number from 0 to y. -/
def boundV (x : Option Value) (y d : Nat) : Option Nat :=
  match x with
  | none => some d
  | some (.int _ i) => if 0 ≤ i ∧ i ≤ y then some i.toNat else none
  | some _ => none
theorem bound_ok {P : Program} {ρ : Ren} {k : IntKind} {i : Int} {y y' : Nat} (c : 0 ≤ i ∧ i ≤ (y : Int)) (hy : y ≤ y') (code : BoundsCode) (w : World) : (Instr.sliceBound (.int k i) y' code).run P w = .ok i.toNat w := by
  have : 0 ≤ i ∧ i ≤ (y' : Int) := ⟨c.1, by omega⟩
  simp [Instr.sliceBound, asIntOf, this]
/-- low, high, max: reckoned with the capacity's lower bound. -/
def boundsV (len cap : Nat) (lo hi mx : Option Value) : Option (Nat × Nat × Nat) :=
  match boundV mx cap cap with
  | none => none
  | some m => match boundV hi m len with
    | none => none
    | some h => match boundV lo h 0 with
      | none => none
      | some l => if h ≤ m ∧ (mx.isSome → hi.isSome) then some (l, h, m) else none
inductive OptR (ρ : Ren) : Option Value → Option Value → Prop
  | none : OptR ρ none none
  | some {v v' : Value} (h : VR ρ v v') : OptR ρ (some v) (some v')
theorem boundV_cases {ρ : Ren} {x x' : Option Value} (hx : OptR ρ x x') {y d n : Nat} (h : boundV x y d = some n) : (x = none ∧ x' = none ∧ n = d) ∨ (∃ k i, x' = some (.int k i) ∧ x = some (.int k i) ∧ 0 ≤ i ∧ i ≤ (y : Int) ∧ n = i.toNat) := by
  cases hx with
  | none => exact .inl ⟨rfl, rfl, (Option.some.inj h).symm⟩
  | some hv =>
    cases hv <;> simp [boundV] at h
    case int k i => exact .inr ⟨k, i, rfl, rfl, h.1.1, h.1.2, h.2.symm⟩
theorem bounds_ok {P : Program} {ρ : Ren} {len cap cap' : Nat} {lo hi mx lo' hi' mx' : Option Value} {l h m : Nat} (e : boundsV len cap lo hi mx = some (l, h, m)) (hlo : OptR ρ lo lo') (hhi : OptR ρ hi hi') (hmx : OptR ρ mx mx') (hc : cap ≤ cap') (isS : Bool) :
    l ≤ h ∧ h ≤ m ∧ m ≤ cap ∧ ∃ m', m ≤ m' ∧ (mx' = none → m' = cap') ∧ (mx' ≠ none → m' = m) ∧ ∀ w, (Instr.sliceBounds isS len cap' lo' hi' mx').run P w = .ok (l, h, m') w := by
  unfold boundsV at e
  split at e
  · cases e
  rename_i m0 em
  split at e
  · cases e
  rename_i h0 eh
  split at e
  · cases e
  rename_i l0 el
  split at e
  case isFalse => cases e
  rename_i c
  simp only [Option.some.injEq, Prod.mk.injEq] at e
  obtain ⟨rfl, rfl, rfl⟩ := e
  have bm := boundV_cases hmx em
  have bh := boundV_cases hhi eh
  have bl := boundV_cases hlo el
  have hl : l0 ≤ h0 := by rcases bl with ⟨_, _, rfl⟩ | ⟨k, i, _, _, h1, h2, rfl⟩ <;> omega
  have hm : m0 ≤ cap := by rcases bm with ⟨_, _, rfl⟩ | ⟨k, i, _, _, h1, h2, rfl⟩ <;> omega
  refine ⟨hl, c.1, hm, ?_⟩
  rcases bm with ⟨rfl, rfl, rfl⟩ | ⟨km, im, rfl, rfl, m1, m2, rfl⟩
  · refine ⟨cap', hc, fun _ => rfl, fun g => absurd rfl g, fun w => ?_⟩
    rcases bh with ⟨rfl, rfl, rfl⟩ | ⟨kh, ih, rfl, rfl, h1, h2, rfl⟩ <;> rcases bl with ⟨rfl, rfl, rfl⟩ | ⟨kl, il, rfl, rfl, l1, l2, rfl⟩
    · simp [Instr.sliceBounds]
    · simp [Instr.sliceBounds, bound_ok (P := P) (ρ := ρ) ⟨l1, l2⟩ (Nat.le_refl _)]
    · simp [Instr.sliceBounds, bound_ok (P := P) (ρ := ρ) ⟨h1, h2⟩ hc]
    · simp [Instr.sliceBounds, bound_ok (P := P) (ρ := ρ) ⟨h1, h2⟩ hc, bound_ok (P := P) (ρ := ρ) ⟨l1, l2⟩ (Nat.le_refl _)]
  · refine ⟨im.toNat, Nat.le_refl _, fun g => absurd g (by simp), fun _ => rfl, fun w => ?_⟩
    rcases bh with ⟨rfl, rfl, rfl⟩ | ⟨kh, ih, rfl, rfl, h1, h2, rfl⟩
    · exact absurd (c.2 rfl) (by simp)
    · rcases bl with ⟨rfl, rfl, rfl⟩ | ⟨kl, il, rfl, rfl, l1, l2, rfl⟩
      · simp [Instr.sliceBounds, bound_ok (P := P) (ρ := ρ) ⟨m1, m2⟩ hc, bound_ok (P := P) (ρ := ρ) ⟨h1, h2⟩ (Nat.le_refl _)]
      · simp [Instr.sliceBounds, bound_ok (P := P) (ρ := ρ) ⟨m1, m2⟩ hc, bound_ok (P := P) (ρ := ρ) ⟨h1, h2⟩ (Nat.le_refl _), bound_ok (P := P) (ρ := ρ) ⟨l1, l2⟩ (Nat.le_refl _)]
/-- A slice expression. -/
def sliceV (E : Env) (H0 : H) (t : TypeId) (x : Value) (lo hi mx : Option Value) : Option Value :=
  match E.under t, x with
  | some .string, .string s => if mx.isSome then none else (boundsV s.size s.size lo hi none).map fun r => .string (s.extract r.1 r.2.1)
  | some (.slice elem), .slice a len cap => match boundsV len cap lo hi mx, E.info elem with
    | some (l, h, m), some i => match a with
      | none => if len = 0 ∧ cap = 0 ∧ mx = none then some (.slice none 0 0) else none
      | some ⟨b, o, none⟩ => match H0.get b with
        | some (.cells _ _ z) => if z = i.size then some (.slice (some (if m = l then ⟨b, o, none⟩ else ⟨b, o + l * i.size, none⟩)) (h - l) (m - l)) else none
        | _ => none
      | some ⟨_, _, some _⟩ => none
    | _, _ => none
  | some (.array n elem), .pointer (some ⟨b, o, none⟩) => match boundsV n n lo hi mx, E.info elem with
    | some (l, h, m), some i => match H0.get b with
      | some (.cells c _ z) => if z = i.size ∧ o + n * i.size ≤ c.length then some (.slice (some (if m = l then ⟨b, o, none⟩ else ⟨b, o + l * i.size, none⟩)) (h - l) (m - l)) else none
      | _ => none
    | _, _ => none
  | _, _ => none
theorem room_sub {a c z S l m : Nat} (h : a + c * z ≤ S) (hl : l ≤ m) (hm : m ≤ c) : a + l * z + (m - l) * z ≤ S := by
  have : l * z + (m - l) * z = m * z := by rw [← Nat.add_mul, Nat.add_sub_cancel' hl]
  have h2 := Nat.mul_le_mul_right z hm
  omega
theorem h45 {ρ : Ren} {mx mx' : Option Value} {m m' cap cap' : Nat} (h5 : mx' = none → m' = cap') (h6 : mx' ≠ none → m' = m) (_ : OptR ρ mx mx') (hc : m ≤ cap ∧ cap ≤ cap') : m' ≤ cap' := by
  by_cases g : mx' = none
  · rw [h5 g]; exact Nat.le_refl _
  · rw [h6 g]; omega
theorem HR.spot {ρ : Ren} {h : H} {w0 : Base} {w : World} (r : HR ρ h w0 w) {b : Nat} {c : List Value} {e : TypeId} {z : Nat} (hg : h.get b = some (.cells c e z)) {p : Spot} (hρ : ρ b = some p) : z = p.z ∧ p.O + c.length ≤ p.S := by
  obtain ⟨p', h1, _, _, c', h4, h5, h6, h7, h8, _⟩ := r.live b _ hg (by simp)
  obtain rfl : p = p' := by rw [hρ] at h1; exact Option.some.inj h1
  exact ⟨h8, by omega⟩
theorem sliceV_ok {P : Program} {E : Env} (hE : EnvOk P E) {ρ : Ren} {H0 : H} {w0 : Base} {W : World} (r : HR ρ H0 w0 W) {t : TypeId} {x x' v : Value} {lo hi mx lo' hi' mx' : Option Value} (h : sliceV E H0 t x lo hi mx = some v) (hx : VR ρ x x') (hlo : OptR ρ lo lo') (hhi : OptR ρ hi hi') (hmx : OptR ρ mx mx') :
    ∃ v', VR ρ v v' ∧ ∀ w, (Instr.sliceAt t x' lo' hi' mx').run P w = .ok v' w := by
  unfold sliceV at h
  split at h
  · rename_i s hu
    cases hx
    split at h
    · cases h
    · rename_i c
      have hmx0 : mx' = none := by cases hmx with | none => rfl | some _ => simp at c
      subst hmx0
      cases hb : boundsV s.size s.size lo hi none with
      | none => rw [hb] at h; simp at h
      | some r =>
        obtain ⟨l, hh, m⟩ := r
        rw [hb] at h
        obtain rfl := Option.some.inj h
        obtain ⟨h1, h2, h3, m', h4, h5, h6, h7⟩ := bounds_ok (P := P) hb hlo hhi .none (Nat.le_refl _) false
        have hr := fun w => run_underlying (P := P) (hE.under t _ hu) w
        exact ⟨_, .string _, fun w => by simp [Instr.sliceAt, Instr.slice, hr, h7]⟩
  · rename_i elem a len cap hu
    have hr := fun w => run_underlying (P := P) (hE.under t _ hu) w
    split at h
    · rename_i l hh m i hb hi2
      split at h
      · split at h
        · rename_i c
          obtain ⟨rfl, rfl, rfl⟩ := c
          obtain rfl := Option.some.inj h
          cases hx
          have hmx0 : mx' = none := by cases hmx; rfl
          subst hmx0
          obtain ⟨h1, h2, h3, m', h4, h5, h6, h7⟩ := bounds_ok (P := P) hb hlo hhi .none (Nat.le_refl _) true
          have e5 := h5 rfl
          obtain rfl : m = 0 := by omega
          obtain rfl : hh = 0 := by omega
          obtain rfl : l = 0 := by omega
          subst e5
          exact ⟨_, .snil, fun w => by simp [Instr.sliceAt, Instr.slice, hr, h7, run_size hE hi2]⟩
        · cases h
      · rename_i b o
        split at h
        case h_2 => cases h
        rename_i cc ee z hg
        split at h
        case isFalse => cases h
        rename_i hz
        obtain rfl := Option.some.inj h
        cases hx with
        | @slice _ p _ _ _ cap' hρ hc hl hs =>
          have hsp := r.spot hg hρ
          have hpz : p.z = i.size := by omega
          rw [hpz] at hs
          obtain ⟨h1, h2, h3, m', h4, h5, h6, h7⟩ := bounds_ok (P := P) hb hlo hhi hmx hc true
          by_cases c : m = l
          · subst c
            obtain rfl : hh = m := by omega
            rw [if_pos rfl, Nat.sub_self]
            by_cases c2 : m' = hh
            · refine ⟨_, .slice0 o (p.O + o) (m' - hh) hρ (by rw [c2, Nat.sub_self, Nat.zero_mul]; omega), fun w => ?_⟩
              simp [Instr.sliceAt, Instr.slice, hr, h7, run_size hE hi2, c2]
            · refine ⟨_, .slice0 o (p.O + o + hh * i.size) (m' - hh) hρ (by rw [hpz]; exact room_sub hs (by omega) (h45 h5 h6 hmx ⟨h3, hc⟩)), fun w => ?_⟩
              simp [Instr.sliceAt, Instr.slice, hr, h7, run_size hE hi2, c2, add_mid]
          · rw [if_neg c]
            have c2 : ¬ m' = l := by omega
            refine ⟨_, .slice (o + l * i.size) (hh - l) (m - l) (m' - l) hρ (by omega) (by omega) (by rw [hpz]; have := room_sub (l := l) hs (by omega) (h45 h5 h6 hmx ⟨h3, hc⟩); omega), fun w => ?_⟩
            simp [Instr.sliceAt, Instr.slice, hr, h7, run_size hE hi2, c2, add_mid, Nat.add_assoc]
        | @slice0 _ p _ o' cap' hρ hs =>
          obtain ⟨h1, h2, h3, m', h4, h5, h6, h7⟩ := bounds_ok (P := P) hb hlo hhi hmx (Nat.zero_le cap') true
          obtain rfl : m = 0 := by omega
          obtain rfl : hh = 0 := by omega
          obtain rfl : l = 0 := by omega
          rw [if_pos rfl, Nat.sub_self]
          by_cases c2 : m' = 0
          · refine ⟨_, .slice0 o o' (m' - 0) hρ (by rw [c2]; simp; omega), fun w => ?_⟩
            simp [Instr.sliceAt, Instr.slice, hr, h7, run_size hE hi2, c2]
          · refine ⟨_, .slice0 o o' (m' - 0) hρ (Nat.le_trans (Nat.add_le_add_left (Nat.mul_le_mul_right _ (by have := h45 h5 h6 hmx ⟨h3, Nat.zero_le cap'⟩; omega)) _) hs), fun w => ?_⟩
            simp [Instr.sliceAt, Instr.slice, hr, h7, run_size hE hi2, c2, add_mid]
      · cases h
    · cases h
  · rename_i n elem b o hu
    have hr := fun w => run_underlying (P := P) (hE.under t _ hu) w
    split at h
    · rename_i l hh m i hb hi2
      split at h
      case h_2 => cases h
      rename_i cc ee z hg
      split at h
      case isFalse => cases h
      rename_i hz
      obtain rfl := Option.some.inj h
      cases hx with
      | @ptr _ p _ hρ =>
        have hsp := r.spot hg hρ
        have hpz : p.z = i.size := by omega
        have hs : p.O + o + n * i.size ≤ p.S := by omega
        obtain ⟨h1, h2, h3, m', h4, h5, h6, h7⟩ := bounds_ok (P := P) hb hlo hhi hmx (Nat.le_refl _) false
        have e : m' = m := by
          rcases Classical.em (mx' = none) with g | g
          · have := h5 g
            subst g
            have : mx = none := by cases hmx; rfl
            subst this
            have : m = n := by
              unfold boundsV at hb
              simp only [boundV] at hb
              split at hb
              · cases hb
              · split at hb
                · cases hb
                · split at hb
                  · simp only [Option.some.injEq, Prod.mk.injEq] at hb; exact hb.2.2.symm
                  · cases hb
            omega
          · exact h6 g
        subst e
        by_cases c : m' = l
        · subst c
          rw [if_pos rfl]
          refine ⟨_, .slice o (hh - m') (m' - m') (m' - m') hρ (Nat.le_refl _) (by omega) (by rw [Nat.sub_self, Nat.zero_mul]; omega), fun w => ?_⟩
          simp [Instr.sliceAt, hr, h7, run_size hE hi2, Instr.sureAddr]
        · rw [if_neg c]
          refine ⟨_, .slice (o + l * i.size) (hh - l) (m' - l) (m' - l) hρ (Nat.le_refl _) (by omega) (by rw [hpz]; have := room_sub (l := l) (m := m') hs (by omega) h3; omega), fun w => ?_⟩
          simp [Instr.sliceAt, hr, h7, run_size hE hi2, Instr.sureAddr, c, add_mid, Nat.add_assoc]
    · cases h
  · cases h
end Go.Ev
namespace Go.Ev
/-- The elements of a list, by a reckoning that never fails to end. -/
theorem run_mapM {α β : Type} {P : Program} {w : World} (g : α → Sem β) (g' : α → β) : ∀ (l : List α), (∀ x ∈ l, (g x).run P w = .ok (g' x) w) → (l.mapM g).run P w = .ok (l.map g') w
  | [], _ => by simp
  | x :: l, h => by
    rw [List.mapM_cons]
    simp [h x (by simp), run_mapM g g' l (fun y hy => h y (by simp [hy]))]
/-- The fields' places. -/
def placesV (E : Env) : List Field → Option (List (Nat × Nat))
  | [] => some []
  | f :: l => match E.info f.type, placesV E l with
    | some i, some r => some ((f.offset, i.size) :: r)
    | _, _ => none
theorem placesV_ok {P : Program} {E : Env} (hE : EnvOk P E) (w : World) : ∀ (l : List Field) (r : List (Nat × Nat)), placesV E l = some r → (l.mapM fun f => do pure (f.offset, ← sizeOf f.type) : Sem (List (Nat × Nat))).run P w = .ok r w
  | [], r, h => by obtain rfl := Option.some.inj h; simp
  | f :: l, r, h => by
    unfold placesV at h
    split at h
    · rename_i i r' hi hr
      obtain rfl := Option.some.inj h
      rw [List.mapM_cons]
      have := placesV_ok hE w l r' hr
      simp only [bind_pure_comp] at this ⊢
      simp [run_size hE hi, this]
    · cases h
def cellsL : Value → List Value
  | .agg ⟨cs⟩ => cs
  | v => [v]
theorem cells_cellsL (v : Value) : v.cells = ⟨cellsL v⟩ := by cases v <;> rfl
theorem VR.cells {ρ : Ren} {v v' : Value} (h : VR ρ v v') : VRs ρ (cellsL v) (cellsL v') := by
  cases h with
  | agg hc => exact hc
  | bool b => exact .cons (.bool b) .nil
  | int k n => exact .cons (.int k n) .nil
  | string s => exact .cons (.string s) .nil
  | pnil => exact .cons .pnil .nil
  | ptr o e => exact .cons (.ptr o e) .nil
  | snil => exact .cons .snil .nil
  | slice o len cap cap' e hc hl hs => exact .cons (.slice o len cap cap' e hc hl hs) .nil
  | slice0 o o' cap' e hs => exact .cons (.slice0 o o' cap' e hs) .nil
  | mnil => exact .cons .mnil .nil
  | map e => exact .cons (.map e) .nil
  | func fn a b => exact .cons (.func fn a b) .nil
  | fnil => exact .cons .fnil .nil
  | iface t a => exact .cons (.iface t a) .nil
  | inil => exact .cons .inil .nil
  | tuple a => exact .cons (.tuple a) .nil
  | unkI n => exact .cons (.unkI n) .nil
  | unkS s => exact .cons (.unkS s) .nil
  | unkB b => exact .cons (.unkB b) .nil
  | unkL a n c => exact .cons (.unkL a n c) .nil
/-- Cells written over others from an offset on. -/
def overL : List Value → Nat → List Value → List Value
  | cs, _, [] => cs
  | cs, off, v :: l => overL (cs.set off v) (off + 1) l
theorem VRs.over {ρ : Ren} : ∀ {l l' : List Value}, VRs ρ l l' → ∀ {cs cs' : List Value} (off : Nat), VRs ρ cs cs' → VRs ρ (overL cs off l) (overL cs' off l')
  | _, _, .nil, _, _, _, h => h
  | _, _, .cons a b, _, _, off, h => VRs.over b (off + 1) (h.set off a)
theorem overL_length : ∀ (l cs : List Value) (off : Nat), (overL cs off l).length = cs.length
  | [], _, _ => rfl
  | v :: l, cs, off => by rw [overL, overL_length, List.length_set]
theorem foldl_over (off : Nat) : ∀ (l : List Value) (k : Nat) (cs : Array Value), (l.zipIdx k).foldl (fun cs (c, j) => cs.setIfInBounds (off + j) c) cs = ⟨overL cs.toList (off + k) l⟩
  | [], _, cs => rfl
  | v :: l, k, cs => by
    rw [List.zipIdx_cons, List.foldl_cons, foldl_over off l (k + 1)]
    show _ = (⟨overL (cs.toList.set (off + k) v) (off + k + 1) l⟩ : Array Value)
    rw [Array.toList_setIfInBounds, Nat.add_assoc]
/-- The parts, laid into the cells. -/
def fillV (place : Nat → Option (Nat × Nat)) : List Value → List (Nat × Value) → Option (List Value)
  | cells, [] => some cells
  | cells, (i, v) :: rest => match place i with
    | none => none
    | some (off, size) => if (cellsL v).length ≠ size ∨ off + (cellsL v).length > cells.length then none else fillV place (overL cells off (cellsL v)) rest
inductive PartsR (ρ : Ren) : List (Nat × Value) → List (Nat × Value) → Prop
  | nil : PartsR ρ [] []
  | cons (i : Nat) {v v' : Value} {l l' : List (Nat × Value)} (h : VR ρ v v') (t : PartsR ρ l l') : PartsR ρ ((i, v) :: l) ((i, v') :: l')
theorem fillV_ok {ρ : Ren} (place : Nat → Option (Nat × Nat)) : ∀ {ps ps' : List (Nat × Value)}, PartsR ρ ps ps' → ∀ {cells cells' r : List Value}, fillV place cells ps = some r → VRs ρ cells cells' → ∃ r', VRs ρ r r' ∧ Instr.fill place ⟨cells'⟩ ps' = some ⟨r'⟩
  | _, _, .nil, cells, cells', r, h, hc => by
    obtain rfl := Option.some.inj h
    exact ⟨cells', hc, rfl⟩
  | _, _, .cons i hv t, cells, cells', r, h, hc => by
    rename_i v v' l l'
    unfold fillV at h
    cases hp : place i with
    | none => rw [hp] at h; cases h
    | some q =>
      obtain ⟨off, size⟩ := q
      rw [hp] at h
      simp only at h
      split at h
      · cases h
      rename_i c
      have hcl := hv.cells
      have hlen := hcl.length
      obtain ⟨r', h1, h2⟩ := fillV_ok place t h (hcl.over off hc)
      refine ⟨r', h1, ?_⟩
      unfold Instr.fill
      rw [hp, cells_cellsL]
      simp only
      have e1 : (⟨cellsL v'⟩ : Array Value).size = (cellsL v).length := by show (cellsL v').length = _; exact hlen
      have e2 : (⟨cells'⟩ : Array Value).size = cells.length := by show cells'.length = _; exact hc.length
      rw [e1, e2]
      have c1 : ¬ ((cellsL v).length ≠ size || off + (cellsL v).length > cells.length) = true := by simp at c ⊢; omega
      rw [if_neg (by simpa using c1)]
      have e3 : (⟨cellsL v'⟩ : Array Value).zipIdx.foldl (fun cs (x : Value × Nat) => cs.setIfInBounds (off + x.2) x.1) (⟨cells'⟩ : Array Value) = ⟨overL cells' off (cellsL v')⟩ := by
        have := foldl_over off (cellsL v') 0 (⟨cells'⟩ : Array Value)
        rw [← Array.foldl_toList]
        simpa using this
      rw [show (⟨cellsL v'⟩ : Array Value).zipIdx.foldl (fun cs (c, j) => cs.setIfInBounds (off + j) c) (⟨cells'⟩ : Array Value) = ⟨overL cells' off (cellsL v')⟩ from e3]
      exact h2
theorem run_arr_mapM {α β : Type} {P : Program} {w : World} (g : α → Sem β) (l : List α) (r : List β) (h : (l.mapM g).run P w = .ok r w) : ((⟨l⟩ : Array α).mapM g).run P w = .ok ⟨r⟩ w := by
  rw [Array.mapM_eq_mapM_toList]
  simp [h]
/-- A struct or an array of parts. -/
def buildV (E : Env) (t : TypeId) (ps : List (Nat × Value)) : Option Value :=
  match E.info t, E.under t with
  | some i, some (.struct ⟨fs⟩) => match placesV E fs with
    | none => none
    | some pl => if flatV i.zero then (fillV (pl[·]?) (cellsL i.zero) ps).map fun c => .agg ⟨c⟩ else none
  | some i, some (.array _ elem) => match E.info elem with
    | none => none
    | some j => if flatV i.zero then (fillV (fun n => some (n * j.size, j.size)) (cellsL i.zero) ps).map fun c => .agg ⟨c⟩ else none
  | _, _ => none
theorem flat_cells {v : Value} (h : flatV v = true) (ρ : Ren) : VRs ρ (cellsL v) (cellsL v) := (VR.refl v h).cells
theorem buildV_ok {P : Program} {E : Env} (hE : EnvOk P E) {ρ : Ren} {t : TypeId} {ps ps' : List (Nat × Value)} {v : Value} (h : buildV E t ps = some v) (hp : PartsR ρ ps ps') : ∃ v', VR ρ v v' ∧ ∀ w, (Instr.build t ⟨ps'⟩).run P w = .ok v' w := by
  unfold buildV at h
  split at h
  · rename_i i fs hi hu
    split at h
    · cases h
    rename_i pl hpl
    split at h
    case isFalse => cases h
    rename_i hz
    cases hf : fillV (pl[·]?) (cellsL i.zero) ps with
    | none => rw [hf] at h; cases h
    | some c =>
      rw [hf] at h
      obtain rfl := Option.some.inj h
      obtain ⟨c', h1, h2⟩ := fillV_ok (pl[·]?) hp hf (flat_cells hz ρ)
      refine ⟨_, .agg h1, fun w => ?_⟩
      have hr := run_underlying (P := P) (hE.under t _ hu) w
      have hm := placesV_ok hE w fs pl hpl
      simp only [bind_pure_comp] at hm
      have h3 : Instr.fill (fun x => pl[x]?) i.zero.cells ps' = some ⟨c'⟩ := by
        rw [cells_cellsL]; exact h2
      simp [Instr.build, run_zero hE hi, hr, hm, h3]
  · rename_i i n elem hi hu
    split at h
    · cases h
    rename_i j hj
    split at h
    case isFalse => cases h
    rename_i hz
    cases hf : fillV (fun n => some (n * j.size, j.size)) (cellsL i.zero) ps with
    | none => rw [hf] at h; cases h
    | some c =>
      rw [hf] at h
      obtain rfl := Option.some.inj h
      obtain ⟨c', h1, h2⟩ := fillV_ok (fun n => some (n * j.size, j.size)) hp hf (flat_cells hz ρ)
      refine ⟨_, .agg h1, fun w => ?_⟩
      have hr := run_underlying (P := P) (hE.under t _ hu) w
      have h3 : Instr.fill (fun n => some (n * j.size, j.size)) i.zero.cells ps' = some ⟨c'⟩ := by rw [cells_cellsL]; exact h2
      simp [Instr.build, run_zero hE hi, hr, run_size hE hj, h3]
  · cases h
/-- How the evaluator's slots stand to the model's. -/
def EvR (ρ : Ren) (ev : Operand → Option Value) (ev' : Operand → Value) : Prop := ∀ x v, ev x = some v → VR ρ v (ev' x)
def partsV (ev : Operand → Option Value) : List (Nat × Operand) → Option (List (Nat × Value))
  | [] => some []
  | (i, x) :: l => match ev x, partsV ev l with
    | some v, some r => some ((i, v) :: r)
    | _, _ => none
theorem partsV_ok {ρ : Ren} {ev : Operand → Option Value} {ev' : Operand → Value} (he : EvR ρ ev ev') : ∀ (l : List (Nat × Operand)) (r : List (Nat × Value)), partsV ev l = some r → PartsR ρ r (l.map fun (i, x) => (i, ev' x))
  | [], r, h => by obtain rfl := Option.some.inj h; exact .nil
  | (i, x) :: l, r, h => by
    unfold partsV at h
    split at h
    · rename_i v r' hv hr
      obtain rfl := Option.some.inj h
      exact .cons i (he x v hv) (partsV_ok he l r' hr)
    · cases h
def optV (ev : Operand → Option Value) : Option Operand → Option (Option Value)
  | none => some none
  | some x => (ev x).map some
theorem optV_ok {ρ : Ren} {ev : Operand → Option Value} {ev' : Operand → Value} (he : EvR ρ ev ev') {x : Option Operand} {r : Option Value} (h : optV ev x = some r) : OptR ρ r (x.map ev') := by
  cases x with
  | none => obtain rfl := Option.some.inj h; exact .none
  | some y =>
    cases hy : ev y with
    | none => simp [optV, hy] at h
    | some v => simp only [optV, hy, Option.map_some, Option.some.injEq] at h; subst h; exact .some (he y v hy)
def argsV (ev : Operand → Option Value) : List Operand → Option (List Value)
  | [] => some []
  | x :: l => match ev x, argsV ev l with
    | some v, some r => some (v :: r)
    | _, _ => none
theorem argsV_ok {ρ : Ren} {ev : Operand → Option Value} {ev' : Operand → Value} (he : EvR ρ ev ev') : ∀ (l : List Operand) (r : List Value), argsV ev l = some r → VRs ρ r (l.map ev')
  | [], r, h => by obtain rfl := Option.some.inj h; exact .nil
  | x :: l, r, h => by
    unfold argsV at h
    split at h
    · rename_i v r' hv hr
      obtain rfl := Option.some.inj h
      exact .cons (he x v hv) (argsV_ok he l r' hr)
    · cases h
end Go.Ev
namespace Go.Ev
def isIface : TypeDesc → Bool
  | .interface _ => true
  | _ => false
def assertV (E : Env) (x : Value) (asserted : TypeId) (ok : Bool) : Option Value :=
  match E.under asserted with
  | none => none
  | some d => if isIface d then none else match x with
    | .iface t v => if t = asserted then some (if ok then .tuple ⟨[v, .bool true]⟩ else v)
      else if ok then (match E.info asserted with
        | none => none
        | some i => if flatV i.zero then some (.tuple ⟨[i.zero, .bool false]⟩) else none) else none
    | _ => none
def lenV (E : Env) (t : TypeId) (x : Value) : Option Value :=
  match E.under t, x with
  | some .string, .string s => some (.int .i64 s.size)
  | some (.slice _), .slice _ n _ => some (.int .i64 n)
  | some (.array n _), _ => some (.int .i64 n)
  | _, _ => none
def pureV (E : Env) (H0 : H) (ev : Operand → Option Value) (o : Oper) : Option Value :=
  match o.op with
  | .move x | .assign x => ev x
  | .pick c a b => match ev c with
    | some (.bool true) => ev a
    | some (.bool false) => ev b
    | _ => none
  | .binOp op t x y _ => match ev x, ev y with
    | some a, some b => binV E op t a b
    | _, _ => none
  | .unOp op _ x => match op, ev x with
    | .not, some (.bool b) => some (.bool (!b))
    | .neg, some (.int k n) => some (.int k (k.wrap (0 - n)))
    | _, _ => none
  | .extract x i => match ev x with
    | some (.tuple ⟨vs⟩) => vs[i]?
    | _ => none
  | .nilCheck x => match ev x with
    | some (.pointer (some ⟨b, o, none⟩)) => some (.pointer (some ⟨b, o, none⟩))
    | some (.func (.func f) a c) => some (.func (.func f) a c)
    | _ => none
  | .convert src dst x => match E.under src, E.under dst, ev x with
    | some _, some (.int k), some (.int _ n) => some (.int k (k.wrap n))
    | some _, some .string, some (.string s) => some (.string s)
    | some _, some .string, some (.int _ n) => some (.string (Utf8.encode n))
    | _, _, _ => none
  | .makeInterface t x => match E.under t, ev x with
    | some d, some v => if isIface d then none else some (.iface t v)
    | _, _ => none
  | .makeFunc fn first captured => match argsV ev first.toList, argsV ev captured.toList with
    | some a, some c => some (.func fn ⟨a⟩ ⟨c⟩)
    | _, _ => none
  | .slice t x lo hi mx => match ev x, optV ev lo, optV ev hi, optV ev mx with
    | some v, some l, some h, some m => sliceV E H0 t v l h m
    | _, _, _, _ => none
  | .fieldAddr t x f => match ev x with
    | some v => fieldAtV E t v f
    | none => none
  | .field t x f => match ev x with
    | some v => fieldV E t v f
    | none => none
  | .indexAddr t x i => match ev x, ev i with
    | some v, some j => indexAtV E t v j
    | _, _ => none
  | .index t x i => match ev x, ev i with
    | some v, some j => indexV E t v j
    | _, _ => none
  | .build t ps => match partsV ev ps.toList with
    | some l => buildV E t l
    | none => none
  | .typeAssert x _ asserted ok => match ev x with
    | some v => assertV E v asserted ok
    | none => none
  | .call { callee := .builtin .len, args := ⟨[x]⟩, argTypes := ⟨[t]⟩ } => match ev x with
    | some v => lenV E t v
    | none => none
  | _ => none
theorem assertV_ok {P : Program} {E : Env} (hE : EnvOk P E) {ρ : Ren} {x x' v : Value} {xt asserted : TypeId} {ok : Bool} (h : assertV E x asserted ok = some v) (hx : VR ρ x x') : ∃ v', VR ρ v v' ∧ ∀ w, (Instr.typeAssert x' xt asserted ok).run P w = .ok v' w := by
  unfold assertV at h
  cases hu : E.under asserted with
  | none => rw [hu] at h; cases h
  | some d =>
    rw [hu] at h
    simp only at h
    split at h
    · cases h
    rename_i hd
    have hr := fun w => run_underlying (P := P) (hE.under asserted d hu) w
    cases hx <;> try (simp at h; done)
    rename_i t u u' hv
    simp only at h
    have hcase : ∀ w, (Instr.typeAssert (.iface t u') xt asserted ok).run P w = (if t = asserted then (pure (if ok then .tuple #[u', .bool true] else u') : Sem Value) else (if ok then (do pure (.tuple #[← zeroValue asserted, .bool false])) else runtimePanic (.typeAssertion (some xt) (some t) asserted ""))).run P w := fun w => by
      cases d <;> simp_all [Instr.typeAssert, isIface]
    split at h
    · rename_i c
      obtain rfl := Option.some.inj h
      cases ok
      · exact ⟨u', hv, fun w => by rw [hcase, if_pos c]; simp⟩
      · exact ⟨_, .tuple (.cons hv (.cons (.bool true) .nil)), fun w => by rw [hcase, if_pos c]; simp⟩
    · rename_i c
      split at h
      · rename_i hok
        subst hok
        cases hi : E.info asserted with
        | none => rw [hi] at h; cases h
        | some i =>
          rw [hi] at h
          simp only at h
          split at h
          · rename_i hz
            obtain rfl := Option.some.inj h
            exact ⟨_, .tuple (.cons (VR.refl _ hz) (.cons (.bool false) .nil)), fun w => by rw [hcase, if_neg c]; simp [run_zero hE hi]⟩
          · cases h
      · cases h
theorem lenV_ok {P : Program} {E : Env} (hE : EnvOk P E) {ρ : Ren} {t : TypeId} {x x' v : Value} {ty : TypeId} (h : lenV E t x = some v) (hx : VR ρ x x') : VR ρ v v ∧ ∀ w, (Builtin.len_ #[t] ty #[x']).run P w = .ok v w := by
  unfold lenV at h
  split at h
  · rename_i s hu
    obtain rfl := Option.some.inj h
    cases hx
    have hr := fun w => run_underlying (P := P) (hE.under t _ hu) w
    exact ⟨.int _ _, fun w => by simp [Builtin.len_, hr, goInt]⟩
  · rename_i e a n c hu
    obtain rfl := Option.some.inj h
    have hr := fun w => run_underlying (P := P) (hE.under t _ hu) w
    refine ⟨.int _ _, fun w => ?_⟩
    cases hx <;> simp [Builtin.len_, hr, goInt]
  · rename_i n e hu
    obtain rfl := Option.some.inj h
    have hr := fun w => run_underlying (P := P) (hE.under t _ hu) w
    exact ⟨.int _ _, fun w => by simp [Builtin.len_, hr, goInt]⟩
  · cases h
/-- Yields the value in every world. -/
def Yl (P : Program) (ev' : Operand → Value) (o : Oper) (v : Value) : Prop := ∀ w, (execOp ev' o).run P w = .ok (.value v) w
end Go.Ev
namespace Go.Ev
theorem pureV_ok {P : Program} {E : Env} (hE : EnvOk P E) {ρ : Ren} {H0 : H} {w0 : Base} {W : World} (r : HR ρ H0 w0 W) {ev : Operand → Option Value} {ev' : Operand → Value} (he : EvR ρ ev ev') {o : Oper} {v : Value} (h : pureV E H0 ev o = some v) : ∃ v', VR ρ v v' ∧ Yl P ev' o v' := by
  unfold pureV at h
  split at h
  · rename_i x ho; exact ⟨_, he x v h, fun w => by simp [execOp, ho]⟩
  · rename_i x ho; exact ⟨_, he x v h, fun w => by simp [execOp, ho]⟩
  · rename_i c a b ho
    split at h
    · rename_i hc
      have h1 := he c _ hc
      cases hq : ev' c <;> rw [hq] at h1 <;> cases h1
      exact ⟨_, he a v h, fun w => by simp [execOp, ho, asBool, hq]⟩
    · rename_i hc
      have h1 := he c _ hc
      cases hq : ev' c <;> rw [hq] at h1 <;> cases h1
      exact ⟨_, he b v h, fun w => by simp [execOp, ho, asBool, hq]⟩
    · cases h
  · rename_i op t x y ty ho
    split at h
    · rename_i a b ha hb
      obtain ⟨h1, h2⟩ := binV_ok (P := P) (xo := x) (yo := y) hE h (he x a ha) (he y b hb)
      exact ⟨v, h1, fun w => by have := h2 w; simp only [execOp, ho, Sem.run_bind] at this ⊢; rw [this]; rfl⟩
    · cases h
  · rename_i op t x ho
    split at h
    · rename_i b hb
      obtain rfl := Option.some.inj h
      have h1 := he x _ hb
      cases hq : ev' x <;> rw [hq] at h1 <;> cases h1
      exact ⟨_, .bool _, fun w => by simp [execOp, ho, hq, Op.unary]⟩
    · rename_i k n hb
      obtain rfl := Option.some.inj h
      have h1 := he x _ hb
      cases hq : ev' x <;> rw [hq] at h1 <;> cases h1
      exact ⟨_, .int _ _, fun w => by simp [execOp, ho, hq, Op.unary, Op.intArith]⟩
    · cases h
  · rename_i x i ho
    split at h
    · rename_i vs hb
      have h1 := he x _ hb
      cases hq : ev' x <;> rw [hq] at h1 <;> cases h1
      rename_i c' hc
      obtain ⟨v', h2, h3⟩ := hc.get i v h
      exact ⟨v', h3, fun w => by simp [execOp, ho, hq, Instr.extract, h2]⟩
    · cases h
  · rename_i x ho
    split at h
    · rename_i b of hb
      obtain rfl := Option.some.inj h
      have h1 := he x _ hb
      cases hq : ev' x <;> rw [hq] at h1 <;> cases h1
      rename_i p hρ
      exact ⟨_, .ptr of hρ, fun w => by simp [execOp, ho, hq]⟩
    · rename_i f a c hb
      obtain rfl := Option.some.inj h
      have h1 := he x _ hb
      cases hq : ev' x <;> rw [hq] at h1
      all_goals first | (cases h1; done) | skip
      rename_i fn f1 c1
      refine ⟨_, h1, fun w => ?_⟩
      cases h1
      simp [execOp, ho, hq]
    · cases h
  · rename_i src dst x ho
    split at h
    · rename_i d k k2 n hs hd hb
      obtain rfl := Option.some.inj h
      have h1 := he x _ hb
      cases hq : ev' x <;> rw [hq] at h1 <;> cases h1
      have r1 := fun w => run_underlying (P := P) (hE.under src _ hs) w
      have r2 := fun w => run_underlying (P := P) (hE.under dst _ hd) w
      exact ⟨_, .int _ _, fun w => by simp [execOp, ho, hq, convert, r1, r2, Conv.intToInt]⟩
    · rename_i d s hs hd hb
      obtain rfl := Option.some.inj h
      have h1 := he x _ hb
      cases hq : ev' x <;> rw [hq] at h1 <;> cases h1
      have r1 := fun w => run_underlying (P := P) (hE.under src _ hs) w
      have r2 := fun w => run_underlying (P := P) (hE.under dst _ hd) w
      exact ⟨_, .string _, fun w => by simp [execOp, ho, hq, convert, r1, r2]⟩
    · rename_i d k n hs hd hb
      obtain rfl := Option.some.inj h
      have h1 := he x _ hb
      cases hq : ev' x <;> rw [hq] at h1 <;> cases h1
      have r1 := fun w => run_underlying (P := P) (hE.under src _ hs) w
      have r2 := fun w => run_underlying (P := P) (hE.under dst _ hd) w
      exact ⟨_, .string _, fun w => by simp [execOp, ho, hq, convert, r1, r2, Conv.intToString]⟩
    · cases h
  · rename_i t x ho
    split at h
    · rename_i d u hd hb
      split at h
      · cases h
      rename_i c
      obtain rfl := Option.some.inj h
      have r1 := fun w => run_underlying (P := P) (hE.under t _ hd) w
      refine ⟨_, .iface t (he x u hb), fun w => ?_⟩
      cases d <;> simp_all [execOp, Instr.makeInterface, isIface]
    · cases h
  · rename_i fn first captured ho
    split at h
    · rename_i a c ha hc
      obtain rfl := Option.some.inj h
      have h1 := argsV_ok he _ _ ha
      have h2 := argsV_ok he _ _ hc
      refine ⟨_, .func fn h1 h2, fun w => ?_⟩
      have e1 : first.map ev' = ⟨first.toList.map ev'⟩ := by apply Array.toList_inj.1; simp
      have e2 : captured.map ev' = ⟨captured.toList.map ev'⟩ := by apply Array.toList_inj.1; simp
      simp [execOp, ho, Instr.makeFunc]
      exact ⟨e1, e2⟩
    · cases h
  · rename_i t x lo hi mx ho
    split at h
    · rename_i u l hh m hb hl hh2 hm
      obtain ⟨v', h1, h2⟩ := sliceV_ok (P := P) hE r h (he x u hb) (optV_ok he hl) (optV_ok he hh2) (optV_ok he hm)
      exact ⟨v', h1, fun w => by simp [execOp, ho, h2]⟩
    · cases h
  · rename_i t x f ho
    split at h
    · rename_i u hb
      obtain ⟨v', h1, h2⟩ := fieldAtV_ok (P := P) hE h (he x u hb)
      exact ⟨v', h1, fun w => by simp [execOp, ho, h2]⟩
    · cases h
  · rename_i t x f ho
    split at h
    · rename_i u hb
      obtain ⟨v', h1, h2⟩ := fieldV_ok (P := P) hE h (he x u hb)
      exact ⟨v', h1, fun w => by simp [execOp, ho, h2]⟩
    · cases h
  · rename_i t x i ho
    split at h
    · rename_i u j hb hj
      obtain ⟨v', h1, h2⟩ := indexAtV_ok (P := P) hE h (he x u hb) (he i j hj)
      exact ⟨v', h1, fun w => by simp [execOp, ho, h2]⟩
    · cases h
  · rename_i t x i ho
    split at h
    · rename_i u j hb hj
      obtain ⟨v', h1, h2⟩ := indexV_ok (P := P) hE h (he x u hb) (he i j hj)
      exact ⟨v', h1, fun w => by simp [execOp, ho, h2]⟩
    · cases h
  · rename_i t ps ho
    split at h
    · rename_i l hl
      obtain ⟨v', h1, h2⟩ := buildV_ok (P := P) hE h (partsV_ok he _ _ hl)
      refine ⟨v', h1, fun w => ?_⟩
      have e1 : (ps.map fun x => (x.1, ev' x.2)) = ⟨ps.toList.map fun x => (x.1, ev' x.2)⟩ := by apply Array.toList_inj.1; simp
      have := h2 w
      simp only [execOp, ho, e1]
      simp [this]
    · cases h
  · rename_i x xt asserted ok ho
    split at h
    · rename_i u hb
      obtain ⟨v', h1, h2⟩ := assertV_ok (P := P) (xt := xt) hE h (he x u hb)
      exact ⟨v', h1, fun w => by simp [execOp, ho, h2]⟩
    · cases h
  · rename_i x t ho
    split at h
    · rename_i u hb
      obtain ⟨h1, h2⟩ := lenV_ok (P := P) (ty := o.type) hE h (he x u hb)
      refine ⟨v, h1, fun w => ?_⟩
      have := h2 w
      simp [execOp, ho, resolve, invoke, builtin, this]
    · cases h
  · cases h
end Go.Ev
namespace Go.Ev
open Go.RowKit
theorem HR.range {ρ : Ren} {h : H} {w0 : Base} {w : World} (r : HR ρ h w0 w) {b : Nat} {c : List Value} {e : TypeId} {z : Nat} (hg : h.get b = some (.cells c e z)) {p : Spot} (hρ : ρ b = some p) (o n : Nat) (hn : o + n ≤ c.length) :
    ∃ c', VRs ρ ((c.drop o).take n) c' ∧ c'.length = n ∧ w.rangeAt p.B (p.O + o) c' := by
  induction n generalizing o with
  | zero => exact ⟨[], by rw [List.take_zero]; exact .nil, rfl, fun j v hj => by simp at hj⟩
  | succ n ih =>
    obtain ⟨c', h1, h2, h3⟩ := ih (o + 1) (by omega)
    have hlt : o < c.length := by omega
    obtain ⟨v', h4, h5⟩ := r.load hg hρ (i := o) (v := c[o]) (List.getElem?_eq_getElem hlt)
    refine ⟨v' :: c', ?_, by simp [h2], fun j v hj => ?_⟩
    · rw [List.drop_eq_getElem_cons hlt, List.take_succ_cons]; exact .cons h5 h1
    · cases j with
      | zero => simp only [List.getElem?_cons_zero, Option.some.injEq] at hj; subst hj; exact h4
      | succ j =>
        simp only [List.getElem?_cons_succ] at hj
        have := h3 j v hj
        rwa [show p.O + (o + 1) + j = p.O + o + (j + 1) by omega] at this
/-- A variable's value. -/
def loadV (E : Env) (h : H) (t : TypeId) (x : Value) : Option Value :=
  match x with
  | .pointer (some ⟨b, o, none⟩) => match h.get b, E.under t with
    | some (.cells c _ _), some d => if isRow d then (match E.info t with
        | some i => if o + i.size ≤ c.length then some (.agg ⟨(c.drop o).take i.size⟩) else none
        | none => none)
      else c[o]?
    | _, _ => none
  | _ => none
theorem loadV_ok {P : Program} {E : Env} (hE : EnvOk P E) {ρ : Ren} {h : H} {w0 : Base} {w : World} (r : HR ρ h w0 w) {t : TypeId} {x x' v : Value} (hl : loadV E h t x = some v) (hx : VR ρ x x') :
    ∃ v', VR ρ v v' ∧ (Instr.loadAt t x').run P w = .ok v' w := by
  unfold loadV at hl
  split at hl
  case h_2 => cases hl
  rename_i b o
  split at hl
  case h_2 => cases hl
  rename_i c e z d hg hu
  cases hx with
  | @ptr _ p _ hρ =>
    split at hl
    · rename_i hd
      split at hl
      case h_2 => cases hl
      rename_i i hi
      split at hl
      case isFalse => cases hl
      rename_i hn
      obtain rfl := Option.some.inj hl
      obtain ⟨c', h1, h2, h3⟩ := r.range hg hρ o i.size hn
      obtain ⟨j, h4, h5, h6, h7⟩ := hE.info t i hi
      refine ⟨_, .agg h1, ?_⟩
      have := run_loadAt_mid (P := P) w p.B (p.O + o) t c' d h3 (hE.under t d hu) (by cases d <;> simp_all [isRow]) (by rw [h4]; simp [h6, h2])
      simpa using this
    · rename_i hd
      obtain ⟨v', h1, h2⟩ := r.load hg hρ hl
      refine ⟨v', h2, ?_⟩
      simp [Instr.loadAt, Instr.sureAddr, loadVar, run_agg hE hu, hd, h1]
def oneC : Value → Bool
  | .agg _ | .tuple _ => false
  | _ => true
theorem VR.one {ρ : Ren} {v v' : Value} (h : VR ρ v v') (ho : oneC v = true) : v'.oneCell' = true := by
  cases h <;> simp_all [oneC, Value.oneCell']
theorem HR.congr {ρ : Ren} {h h' : H} {w0 : Base} {w : World} (r : HR ρ h w0 w) (hg : ∀ b, h'.get b = h.get b) (hn : h'.next = h.next) (hr : h'.ro = h.ro := by rfl) : HR ρ h' w0 w :=
  ⟨fun b o e => r.live b o (by rw [← hg]; exact e), fun b b' o o' x x' e d e' d' => r.apart b b' o o' x x' (by rw [← hg]; exact e) d (by rw [← hg]; exact e') d', fun b hb => r.fresh b (by rw [← hn]; exact hb), fun b hb => by rw [hg]; exact r.known b (by rw [← hn]; exact hb), r.low, by rw [hn]; exact r.nb, by rw [hr]; exact r.ro, r.old, fun b hb => by rw [hg]; exact r.keep b hb⟩
theorem H.get_set_set (h : H) (b : Nat) (o o' : AObj) (c : Nat) : ((h.set b o).set b o').get c = (h.set b o').get c := by
  by_cases e : c = b
  · subst e; rw [H.get_set_same, H.get_set_same]
  · rw [H.get_set_ne _ _ e, H.get_set_ne _ _ e, H.get_set_ne _ _ e]
theorem run_store_at {P : Program} {w : World} {a : Addr} {v u : Value} (hv : v.oneCell' = true) (hc : w.cell? a = some u) (hf : w.frozen? a = false) : (store a v).run P w = .ok () (w.setCell a v) := by
  rw [run_store P w a v _ hv]
  simp [hc, hf]
theorem HR.stores {P : Program} {ρ : Ren} {w0 : Base} {b : Nat} {e : TypeId} {z : Nat} {p : Spot} (hρ : ρ b = some p) (o : Nat) : ∀ {l l' : List Value}, VRs ρ l l' → ∀ {h : H} {w : World} {c : List Value} (i : Nat), HR ρ h w0 w → h.get b = some (.cells c e z) → h.ro ≤ b → o + i + l.length ≤ c.length → l.all oneC = true →
    ∃ w', HR ρ (h.set b (.cells (overL c (o + i) l) e z)) w0 w' ∧ (storeCells ⟨p.B, p.O + o, none⟩ l' i).run P w = .ok () w'
  | _, _, .nil, h, w, c, i, r, hg, _, _, _ => by
    refine ⟨w, r.congr (fun d => ?_) rfl, by simp [storeCells]⟩
    by_cases q : d = b
    · subst q; rw [H.get_set_same, hg]; rfl
    · rw [H.get_set_ne _ _ q]
  | _, _, .cons (v := v) (v' := v') (l := l) (l' := l') hv ht, h, w, c, i, r, hg, hro, hn, ha => by
    simp only [List.all_cons, Bool.and_eq_true] at ha
    simp only [List.length_cons] at hn
    have hlt : o + i < c.length := by omega
    obtain ⟨u, h1, _⟩ := r.load hg hρ (i := o + i) (v := c[o + i]) (List.getElem?_eq_getElem hlt)
    have hf := r.frozen hg hρ hlt
    have hs := run_store_at (P := P) (VR.one hv ha.1) h1 hf
    have r2 := r.store hg hρ hlt hro hv
    have ea : (⟨p.B, p.O + o, none⟩ : Addr).add i = ⟨p.B, p.O + (o + i), none⟩ := by rw [add_mid, Nat.add_assoc]
    obtain ⟨w', r3, hrun⟩ := HR.stores (P := P) hρ o ht (i + 1) r2 (H.get_set_same _ _ _) hro (by rw [List.length_set]; omega) ha.2
    refine ⟨w', r3.congr (fun d => ?_) rfl, ?_⟩
    · rw [H.get_set_set]; rfl
    · simp only [storeCells, ea, Sem.run_bind, hs, Result.andThen_ok]
      exact hrun
/-- A store. -/
def storeV (E : Env) (h : H) (t : TypeId) (x v : Value) : Option H :=
  match x with
  | .pointer (some ⟨b, o, none⟩) => match h.get b, E.info t with
    | some (.cells c e z), some i => if (cellsL v).length = i.size ∧ o + (cellsL v).length ≤ c.length ∧ (cellsL v).all oneC = true ∧ h.ro ≤ b then some (h.set b (.cells (overL c o (cellsL v)) e z)) else none
    | _, _ => none
  | _ => none
theorem storeV_ok {P : Program} {E : Env} (hE : EnvOk P E) {ρ : Ren} {h h' : H} {w0 : Base} {w : World} (r : HR ρ h w0 w) {t : TypeId} {x x' v v' : Value} (hl : storeV E h t x v = some h') (hx : VR ρ x x') (hv : VR ρ v v') :
    ∃ w', HR ρ h' w0 w' ∧ (Instr.storeAt t x' v').run P w = .ok () w' := by
  unfold storeV at hl
  split at hl
  case h_2 => cases hl
  rename_i b o
  split at hl
  case h_2 => cases hl
  rename_i c e z i hg hi
  split at hl
  case isFalse => cases hl
  rename_i hc
  obtain rfl := Option.some.inj hl
  cases hx with
  | @ptr _ p _ hρ =>
    obtain ⟨w', h1, h2⟩ := HR.stores (P := P) hρ o hv.cells 0 r hg hc.2.2.2 (by omega) hc.2.2.1
    refine ⟨w', h1, ?_⟩
    have hs : v'.cells.size = i.size := by rw [cells_cellsL]; show (cellsL v').length = _; rw [hv.cells.length]; exact hc.1
    have hl2 : v'.cells.toList = cellsL v' := by rw [cells_cellsL]
    simp [Instr.storeAt, Instr.sureAddr, storeVar, run_size hE hi, hs, hl2, h2]
/-- How many cells an element of a slice over such a variable has. -/
def stride (E : Env) (t : TypeId) : Option Nat :=
  match E.under t with
  | some (.array _ el) => (E.info el).map (·.size)
  | some _ => some 0
  | none => none
/-- New cells. -/
def newV (h : H) (e : TypeId) (z : Nat) (c : List Value) : Value × H := (.pointer (some ⟨h.next, 0, none⟩), h.new (.cells c e z))
theorem newV_ok {P : Program} {ρ : Ren} {h : H} {w0 : Base} {w : World} (r : HR ρ h w0 w) (e : TypeId) (z : Nat) {c c' : List Value} (hc : VRs ρ c c') :
    ∃ ρ' w', ρ.le ρ' ∧ HR ρ' (h.new (.cells c e z)) w0 w' ∧ ρ' h.next = some ⟨w.heap.size, 0, c.length, z⟩ ∧ (newRow e ⟨c'⟩).run P w = .ok ⟨w.heap.size, 0, none⟩ w' := by
  refine ⟨_, _, Ren.le_put (r.fresh _ (Nat.le_refl _)), r.new (obj := .cells ⟨c'⟩ e) ⟨⟨c'⟩, ⟨(0, 0), rfl, .inl rfl⟩, ?_, fun i v hi => ?_, hc.length, rfl, fun _ => ⟨rfl, hc.length⟩⟩, Ren.put_same, by simp [newRow]⟩
  · show 0 + c.length ≤ c'.length
    rw [hc.length]; omega
  · obtain ⟨v', h1, h2⟩ := hc.get i v hi
    exact ⟨v', by simpa using h1, h2⟩
def allocV (E : Env) (h : H) (t : TypeId) : Option (Value × H) :=
  match E.info t, stride E t with
  | some i, some z => if flatV i.zero then some (newV h t z (cellsL i.zero)) else none
  | _, _ => none
theorem allocV_ok {P : Program} {E : Env} (hE : EnvOk P E) {ρ : Ren} {h h' : H} {w0 : Base} {w : World} (r : HR ρ h w0 w) {t : TypeId} {v : Value} (hl : allocV E h t = some (v, h')) :
    ∃ ρ' v' w', ρ.le ρ' ∧ HR ρ' h' w0 w' ∧ VR ρ' v v' ∧ (Instr.alloc t true (.tuple #[])).run P w = .ok v' w' := by
  unfold allocV at hl
  split at hl
  case h_2 => cases hl
  rename_i i z hi hst
  split at hl
  case isFalse => cases hl
  rename_i hz
  simp only [newV, Option.some.injEq, Prod.mk.injEq] at hl
  obtain ⟨rfl, rfl⟩ := hl
  obtain ⟨ρ', w', h1, h2, h3, h4⟩ := newV_ok (P := P) r t z (flat_cells hz ρ)
  refine ⟨ρ', _, w', h1, h2, .ptr 0 h3, ?_⟩
  simp [Instr.alloc, run_zero hE hi, newVar, cells_cellsL, h4]
def boxV (E : Env) (h : H) (t : TypeId) (v : Value) : Option (Value × H) := (stride E t).map fun z => newV h t z (cellsL v)
theorem boxV_ok {P : Program} {E : Env} {ρ : Ren} {h h' : H} {w0 : Base} {w : World} (r : HR ρ h w0 w) {t : TypeId} {v v' u : Value} (hl : boxV E h t v = some (u, h')) (hv : VR ρ v v') :
    ∃ ρ' u' w', ρ.le ρ' ∧ HR ρ' h' w0 w' ∧ VR ρ' u u' ∧ (Instr.box t v').run P w = .ok u' w' := by
  unfold boxV at hl
  cases hst : stride E t with
  | none => rw [hst] at hl; cases hl
  | some z =>
    rw [hst] at hl
    simp only [newV, Option.map_some, Option.some.injEq, Prod.mk.injEq] at hl
    obtain ⟨rfl, rfl⟩ := hl
    obtain ⟨ρ', w', h1, h2, h3, h4⟩ := newV_ok (P := P) r t z hv.cells
    refine ⟨ρ', _, w', h1, h2, .ptr 0 h3, ?_⟩
    simp [Instr.box, newVar, cells_cellsL, h4]
/-- The same cells, n times. -/
def timesL (z : List Value) : Nat → List Value
  | 0 => []
  | n + 1 => z ++ timesL z n
theorem timesL_length (z : List Value) : ∀ n, (timesL z n).length = n * z.length
  | 0 => by simp [timesL]
  | n + 1 => by rw [timesL, List.length_append, timesL_length z n, Nat.succ_mul, Nat.add_comm]
theorem timesL_get (z : List Value) (hz : 0 < z.length) : ∀ (n i : Nat), i < n * z.length → (timesL z n)[i]? = z[i % z.length]?
  | 0, i, h => by omega
  | n + 1, i, h => by
    rw [timesL]
    by_cases c : i < z.length
    · rw [List.getElem?_append_left c, Nat.mod_eq_of_lt c]
    · rw [List.getElem?_append_right (by omega), timesL_get z hz n (i - z.length) (by have := Nat.add_one_mul n z.length; omega)]
      congr 1
      exact (Nat.mod_eq_sub_mod (by omega)).symm
theorem times_eq (z : List Value) (n : Nat) (hz : 0 < z.length) : ((Array.range (n * z.length)).map fun i => (⟨z⟩ : Array Value)[i % (⟨z⟩ : Array Value).size]!) = ⟨timesL z n⟩ := by
  apply Array.toList_inj.1
  apply List.ext_getElem?
  intro i
  show _ = (timesL z n)[i]?
  by_cases c : i < n * z.length
  · rw [timesL_get z hz n i c]
    have hm : i % z.length < z.length := Nat.mod_lt _ hz
    simp [c, hm, getElem!_pos]
  · have e : (timesL z n)[i]? = none := List.getElem?_eq_none (by rw [timesL_length]; omega)
    rw [e]
    simp; omega
theorem VRs.times {ρ : Ren} {z z' : List Value} (h : VRs ρ z z') : ∀ n, VRs ρ (timesL z n) (timesL z' n)
  | 0 => .nil
  | n + 1 => h.append (VRs.times h n)
end Go.Ev
namespace Go.Ev
open Go.RowKit
theorem wrapI {x : Int} (h0 : 0 ≤ x) (h1 : x < 4611686018427387904) : IntKind.i64.wrap x = x := by
  have e : IntKind.i64.wrap x = (if (true && decide (x % 18446744073709551616 ≥ 9223372036854775808)) = true then x % 18446744073709551616 - 18446744073709551616 else x % 18446744073709551616) := rfl
  rw [e, Int.emod_eq_of_lt h0 (by omega), if_neg (by simp; omega)]
theorem range0 {α : Type} (f : Nat → α) : Array.map f (Array.range 0) = #[] := by apply Array.toList_inj.1; simp
def buildSliceV (E : Env) (h : H) (t : TypeId) (len : Nat) (ps : List (Nat × Value)) : Option (Value × H) :=
  match E.under t with
  | some (.slice e) => match E.info e with
    | some j => if len * j.size ≤ 16777216 ∧ flatV j.zero = true ∧ (cellsL j.zero).length = j.size ∧ 0 < j.size then
        (match fillV (fun i => some (i * j.size, j.size)) (timesL (cellsL j.zero) len) ps with
        | some c => some (.slice (some ⟨h.next, 0, none⟩) len len, h.new (.cells c e j.size))
        | none => none) else none
    | none => none
  | _ => none
theorem fillV_length {place : Nat → Option (Nat × Nat)} : ∀ {ps : List (Nat × Value)} {cells r : List Value}, fillV place cells ps = some r → r.length = cells.length
  | [], cells, r, h => by obtain rfl := Option.some.inj h; rfl
  | (i, v) :: l, cells, r, h => by
    unfold fillV at h
    split at h
    · cases h
    · split at h
      · cases h
      · rw [fillV_length h, overL_length]
theorem buildSliceV_ok {P : Program} {E : Env} (hE : EnvOk P E) {ρ : Ren} {h h' : H} {w0 : Base} {w : World} (r : HR ρ h w0 w) {t : TypeId} {len : Nat} {ps ps' : List (Nat × Value)} {v : Value} (hl : buildSliceV E h t len ps = some (v, h')) (hp : PartsR ρ ps ps') :
    ∃ ρ' v' w', ρ.le ρ' ∧ HR ρ' h' w0 w' ∧ VR ρ' v v' ∧ (Instr.buildSlice t len ⟨ps'⟩).run P w = .ok v' w' := by
  unfold buildSliceV at hl
  split at hl
  case h_2 => cases hl
  rename_i e hu
  split at hl
  case h_2 => cases hl
  rename_i j hj
  split at hl
  case isFalse => cases hl
  rename_i hc
  split at hl
  case h_2 => cases hl
  rename_i c hf
  simp only [Option.some.injEq, Prod.mk.injEq] at hl
  obtain ⟨rfl, rfl⟩ := hl
  obtain ⟨c', h1, h2⟩ := fillV_ok (fun i => some (i * j.size, j.size)) hp hf ((flat_cells hc.2.1 ρ).times len)
  obtain ⟨ρ', w', h3, h4, h5, h6⟩ := newV_ok (P := P) r e j.size h1
  have hcl : c.length = len * j.size := by rw [fillV_length hf, timesL_length, hc.2.2.1]
  refine ⟨ρ', _, w', h3, h4, .slice 0 len len len h5 (Nat.le_refl _) (Nat.le_refl _) (by show 0 + 0 + len * j.size ≤ c.length; omega), ?_⟩
  have hr := run_underlying (P := P) (hE.under t _ hu) w
  have hz : j.zero.cells = ⟨cellsL j.zero⟩ := cells_cellsL _
  by_cases h0 : len * j.size = 0
  · have hlen : len = 0 := by rcases Nat.mul_eq_zero.1 h0 with g | g; exact g; omega
    subst hlen
    have h2' : Instr.fill (fun i => some (i * j.size, j.size)) #[] ps' = some ⟨c'⟩ := h2
    simp [Instr.buildSlice, hr, run_size hE hj]
    rw [range0, h2']
    simp [h6]
  · have ht := times_eq (cellsL j.zero) len (by omega)
    rw [hc.2.2.1] at ht
    have hgt : ¬ (len * j.size > 2 ^ 24) := by have := hc.1; omega
    simp only [Instr.buildSlice, Sem.run_bind, hr, Result.andThen_ok, run_size hE hj, if_neg hgt, if_neg h0, run_zero hE hj, Sem.run_pure, hz]
    rw [ht]
    rw [h2]
    simp [h6]
def makeSliceV (E : Env) (h : H) (t : TypeId) (len cap : Value) : Option (Value × H) :=
  match E.under t, len, cap with
  | some (.slice e), .int _ l, .int _ c => match E.info e with
    | some j => if 0 ≤ l ∧ l ≤ c ∧ c ≤ 1000000 ∧ j.bytes ≤ 1000000 ∧ flatV j.zero = true ∧ (cellsL j.zero).length = j.size ∧ 0 < j.size then
        some (.slice (some ⟨h.next, 0, none⟩) l.toNat c.toNat, h.new (.cells (timesL (cellsL j.zero) c.toNat) e j.size)) else none
    | none => none
  | _, _, _ => none
theorem makeSliceV_ok {P : Program} {E : Env} (hE : EnvOk P E) {ρ : Ren} {h h' : H} {w0 : Base} {w : World} (r : HR ρ h w0 w) {t : TypeId} {len cap len' cap' v : Value} (hl : makeSliceV E h t len cap = some (v, h')) (h1 : VR ρ len len') (h2 : VR ρ cap cap') :
    ∃ ρ' v' w', ρ.le ρ' ∧ HR ρ' h' w0 w' ∧ VR ρ' v v' ∧ (Instr.makeSlice t len' cap').run P w = .ok v' w' := by
  unfold makeSliceV at hl
  split at hl
  case h_2 => cases hl
  rename_i e k l k2 c hu
  split at hl
  case h_2 => cases hl
  rename_i j hj
  split at hl
  case isFalse => cases hl
  rename_i hc
  simp only [Option.some.injEq, Prod.mk.injEq] at hl
  obtain ⟨rfl, rfl⟩ := hl
  cases h1; cases h2
  obtain ⟨ρ', w', h3, h4, h5, h6⟩ := newV_ok (P := P) r e j.size ((flat_cells hc.2.2.2.2.1 ρ).times c.toNat)
  refine ⟨ρ', _, w', h3, h4, .slice 0 _ _ c.toNat h5 (Nat.le_refl _) (by omega) (by show 0 + 0 + c.toNat * j.size ≤ (timesL (cellsL j.zero) c.toNat).length; rw [timesL_length, hc.2.2.2.2.2.1]; omega), ?_⟩
  have hr := fun w => run_underlying (P := P) (hE.under t _ hu) w
  obtain ⟨ji, g1, g2, g3, g4⟩ := run_bytes (P := P) hE hj w
  have wl : IntKind.i64.wrap l = l := wrapI hc.1 (by omega)
  have wc : IntKind.i64.wrap c = c := wrapI (by omega) (by omega)
  have hb : ¬ ((ji.bytes : Int) * c > 2 ^ 48) := by
    have e1 : ((2 : Int) ^ 48) = 281474976710656 := by decide
    rw [e1, g2]
    have : (j.bytes : Int) * c ≤ 1000000 * 1000000 := Int.mul_le_mul (by omega) (by omega) (by omega) (by omega)
    omega
  have hn : ¬ (c < 0) := by omega
  have hz : j.zero.cells = ⟨cellsL j.zero⟩ := cells_cellsL _
  have htl : ((decide (c < 0) || decide ((ji.bytes : Int) * c > 2 ^ 48)) || decide (l < 0) || decide (l > c)) = false := by
    rw [decide_eq_false hn, decide_eq_false hb, decide_eq_false (by omega), decide_eq_false (by omega)]; rfl
  simp only [Instr.makeSlice, Sem.run_bind, hr, Result.andThen_ok, asInt, asIntOf, Sem.run_pure, g1, wl, wc]
  rw [if_neg (by rw [htl]; decide)]
  by_cases h0 : c.toNat = 0
  · simp [run_askRoom, run_size hE hj, h0]
    rw [h0] at h6
    have h7 : (newRow e #[]).run P w = _ := h6
    rw [range0, h7]
    simp
  · have ht := times_eq (cellsL j.zero) c.toNat (by omega)
    rw [hc.2.2.2.2.2.1] at ht
    have h9 : ¬ (c.toNat * j.size = 0) := fun g => by rcases Nat.mul_eq_zero.1 g with g | g <;> omega
    simp only [Sem.run_bind, run_askRoom, Result.andThen_ok, run_size hE hj, if_neg h9, run_zero hE hj, Sem.run_pure, hz, ht, h6]
def makeMapV (h : H) : Value × H := (.map (some h.next), h.new (.map [] 0))
theorem makeMapV_ok {P : Program} {ρ : Ren} {h : H} {w0 : Base} {w : World} (r : HR ρ h w0 w) (t : TypeId) : ∃ ρ' v' w', ρ.le ρ' ∧ HR ρ' (makeMapV h).2 w0 w' ∧ VR ρ' (makeMapV h).1 v' ∧ (Instr.makeMap t none).run P w = .ok v' w' :=
  ⟨_, _, _, Ren.le_put (r.fresh _ (Nat.le_refl _)), r.new (obj := .map ⟨[]⟩ 0) (S := 0) (z := 0) ⟨[], rfl, .nil⟩, .map Ren.put_same, by simp [Instr.makeMap]⟩
end Go.Ev
namespace Go.Ev
open Go.RowKit
abbrev Ent := Value × Value × Nat
def findV (d : TypeDesc) (k : Value) : List Ent → Nat → Option (Option (Nat × Value))
  | [], _ => some none
  | (k', v, _) :: es, i => match Instr.sameNow d k k' with
    | some true => some (some (i, v))
    | some false => findV d k es (i + 1)
    | none => none
theorem findV_ok {ρ : Ren} (d : TypeDesc) (k : Value) : ∀ {es : List Ent} {es' : List MapEntry}, EsR ρ es es' → ∀ (i : Nat) (r : Option (Nat × Value)), findV d k es i = some r →
    (r = none ∧ Instr.findNow d k es' i = some none) ∨ (∃ j v v', r = some (j, v) ∧ Instr.findNow d k es' i = some (some (j, v')) ∧ VR ρ v v' ∧ i ≤ j ∧ ∃ e, es'[j - i]? = some e ∧ Instr.sameNow d k e.key = some true)
  | _, _, .nil, i, r, h => by obtain rfl := Option.some.inj h; exact .inl ⟨rfl, rfl⟩
  | _, _, .cons (k := k') (v := v) (v' := v') (n := n) hk hv t, i, r, h => by
    unfold findV at h
    unfold Instr.findNow
    cases hs : Instr.sameNow d k k' with
    | none => rw [hs] at h; cases h
    | some b =>
      rw [hs] at h
      cases b with
      | true => obtain rfl := Option.some.inj h; exact .inr ⟨i, v, v', rfl, by simp [hs], hv, Nat.le_refl _, ⟨k', v', n⟩, by simp, hs⟩
      | false =>
        simp only [hs]
        rcases findV_ok d k t (i + 1) r h with h1 | ⟨j, u, u', h1, h2, h3, h4, e, h5, h6⟩
        · exact .inl h1
        · exact .inr ⟨j, u, u', h1, h2, h3, by omega, e, by rw [show j - i = (j - (i + 1)) + 1 by omega]; simpa using h5, h6⟩
def isKey : TypeDesc → Value → Bool
  | .string, .string _ => true
  | .int _, .int _ _ => true
  | _, _ => false
theorem VR.key {ρ : Ren} {d : TypeDesc} {k k' : Value} (h : VR ρ k k') (hk : isKey d k = true) : k' = k := by
  cases h <;> first | rfl | (cases d <;> simp [isKey] at hk)
theorem run_check {P : Program} {E : Env} (hE : EnvOk P E) {t : TypeId} {d : TypeDesc} {k : Value} (hu : E.under t = some d) (hk : isKey d k = true) (b : Bool) (w : World) : (Instr.checkKey b 10000 t k).run P w = .ok () w := by
  have hr := run_underlying (P := P) (hE.under t d hu) w
  rw [show (10000 : Nat) = 9999 + 1 from rfl, Instr.checkKey]
  generalize 9999 = n
  cases d <;> simp [isKey] at hk <;> cases k <;> simp at hk <;> simp [hr]
theorem HR.mapAt {ρ : Ren} {h : H} {w0 : Base} {w : World} (r : HR ρ h w0 w) {b : Nat} {es : List Ent} {clock : Nat} (hg : h.get b = some (.map es clock)) {p : Spot} (hρ : ρ b = some p) : ∃ es', w.heap[p.B]? = some (.map ⟨es'⟩ clock) ∧ EsR ρ es es' := by
  obtain ⟨p', h1, _, _, es', h4, h5⟩ := r.live b _ hg (by simp)
  obtain rfl : p = p' := by rw [hρ] at h1; exact Option.some.inj h1
  exact ⟨es', h4, h5⟩
def entriesV (h : H) (m : Value) : Option (List Ent) :=
  match m with
  | .map none => some []
  | .map (some b) => match h.get b with
    | some (.map es _) => some es
    | _ => none
  | _ => none
def lookupV (E : Env) (h : H) (t : TypeId) (m k : Value) (ok : Bool) : Option Value :=
  match E.under t, entriesV h m with
  | some (.map kt et), some es => match E.under kt, E.info et with
    | some d, some i => if isKey d k = true ∧ flatV i.zero = true then (match findV d k es 0 with
        | some (some (_, v)) => some (if ok then .tuple ⟨[v, .bool true]⟩ else v)
        | some none => some (if ok then .tuple ⟨[i.zero, .bool false]⟩ else i.zero)
        | none => none) else none
    | _, _ => none
  | _, _ => none
theorem lookupV_ok {P : Program} {E : Env} (hE : EnvOk P E) {ρ : Ren} {h : H} {w0 : Base} {w : World} (r : HR ρ h w0 w) {t : TypeId} {m m' k k' v : Value} {ok : Bool} (hl : lookupV E h t m k ok = some v) (hm : VR ρ m m') (hk : VR ρ k k') :
    ∃ v', VR ρ v v' ∧ (Instr.lookup t m' k' ok).run P w = .ok v' w := by
  unfold lookupV at hl
  split at hl
  case h_2 => cases hl
  rename_i kt et es hu hes
  split at hl
  case h_2 => cases hl
  rename_i d i hd hi
  split at hl
  case isFalse => cases hl
  rename_i hc
  obtain rfl := hk.key hc.1
  have hr := run_underlying (P := P) (hE.under t _ hu) w
  have hr2 := run_underlying (P := P) (hE.under kt _ hd) w
  have hz := run_zero (P := P) hE hi w
  have hch := fun b => run_check (P := P) hE hd hc.1 b w
  unfold entriesV at hes
  split at hes
  · obtain rfl := Option.some.inj hes
    cases hm
    have h2 : EsR ρ [] [] := .nil
    have hfk : ∀ q, Instr.findNow d k' [] 0 = some q → (Instr.findKey kt k' []).run P w = .ok q w := fun q hq => by simp [Instr.findKey, hr2, hq]
    split at hl
    · rename_i j u hf
      obtain rfl := Option.some.inj hl
      rcases findV_ok d k' h2 0 _ hf with ⟨g, _⟩ | ⟨j2, u2, u', g1, g2, g3, _⟩
      · cases g
      · obtain ⟨rfl, rfl⟩ : j = j2 ∧ u = u2 := by simpa using g1
        cases ok
        · exact ⟨u', g3, by simp [Instr.lookup, hr, getObj, Sem.run, hch, hfk _ g2]⟩
        · exact ⟨_, .tuple (.cons g3 (.cons (.bool true) .nil)), by simp [Instr.lookup, hr, getObj, Sem.run, hch, hfk _ g2]⟩
    · rename_i hf
      obtain rfl := Option.some.inj hl
      rcases findV_ok d k' h2 0 _ hf with ⟨_, g⟩ | ⟨j2, u2, u', g1, _⟩
      · cases ok
        · exact ⟨_, VR.refl _ hc.2, by simp [Instr.lookup, hr, getObj, Sem.run, hch, hfk _ g, hz]⟩
        · exact ⟨_, .tuple (.cons (VR.refl _ hc.2) (.cons (.bool false) .nil)), by simp [Instr.lookup, hr, getObj, Sem.run, hch, hfk _ g, hz]⟩
      · cases g1
    · cases hl
  · split at hes
    case h_2 => cases hes
    rename_i b es0 clock hg
    obtain rfl := Option.some.inj hes
    cases hm with
    | @map _ p hρ =>
    obtain ⟨es', h1, h2⟩ := r.mapAt hg hρ
    have hfk : ∀ q, Instr.findNow d k' es' 0 = some q → (Instr.findKey kt k' es').run P w = .ok q w := fun q hq => by simp [Instr.findKey, hr2, hq]
    split at hl
    · rename_i j u hf
      obtain rfl := Option.some.inj hl
      rcases findV_ok d k' h2 0 _ hf with ⟨g, _⟩ | ⟨j2, u2, u', g1, g2, g3, _⟩
      · cases g
      · obtain ⟨rfl, rfl⟩ : j = j2 ∧ u = u2 := by simpa using g1
        cases ok
        · exact ⟨u', g3, by simp [Instr.lookup, hr, getObj, Sem.run, h1, hch, hfk _ g2]⟩
        · exact ⟨_, .tuple (.cons g3 (.cons (.bool true) .nil)), by simp [Instr.lookup, hr, getObj, Sem.run, h1, hch, hfk _ g2]⟩
    · rename_i hf
      obtain rfl := Option.some.inj hl
      rcases findV_ok d k' h2 0 _ hf with ⟨_, g⟩ | ⟨j2, u2, u', g1, _⟩
      · cases ok
        · exact ⟨_, VR.refl _ hc.2, by simp [Instr.lookup, hr, getObj, Sem.run, h1, hch, hfk _ g, hz]⟩
        · exact ⟨_, .tuple (.cons (VR.refl _ hc.2) (.cons (.bool false) .nil)), by simp [Instr.lookup, hr, getObj, Sem.run, h1, hch, hfk _ g, hz]⟩
      · cases g1
    · cases hl
  · cases hes
/-- A store into a map. -/
def setE (es : List Ent) (i : Nat) (k v : Value) : List Ent := match es, i with
  | [], _ => []
  | (_, _, n) :: r, 0 => (k, v, n) :: r
  | e :: r, i + 1 => e :: setE r i k v
def mapUpdateV (E : Env) (h : H) (t : TypeId) (m k v : Value) : Option H :=
  match E.under t, m with
  | some (.map kt _), .map (some b) => match h.get b, E.under kt with
    | some (.map es clock), some d => if isKey d k = true ∧ flatV k = true ∧ h.ro ≤ b then (match findV d k es 0 with
        | some (some (i, _)) => some (h.set b (.map (setE es i k v) clock))
        | some none => some (h.set b (.map (es ++ [(k, v, clock)]) (clock + 1)))
        | none => none) else none
    | _, _ => none
  | _, _ => none
theorem EsR.set {ρ : Ren} {k v v' : Value} (hk : flatV k = true) (hv : VR ρ v v') : ∀ {es : List Ent} {es' : List MapEntry}, EsR ρ es es' → ∀ i, EsR ρ (setE es i k v) (es'.modify i fun e => { e with key := k, val := v' })
  | _, _, .nil, i => by cases i <;> exact .nil
  | _, _, .cons a b c, 0 => .cons hk hv c
  | _, _, .cons a b c, i + 1 => .cons a b (EsR.set hk hv c i)
theorem EsR.push {ρ : Ren} {k v v' : Value} (hk : flatV k = true) (hv : VR ρ v v') (n : Nat) : ∀ {es : List Ent} {es' : List MapEntry}, EsR ρ es es' → EsR ρ (es ++ [(k, v, n)]) (es' ++ [⟨k, v', n⟩])
  | _, _, .nil => .cons hk hv .nil
  | _, _, .cons a b c => .cons a b (EsR.push hk hv n c)
theorem run_setObj {P : Program} {w : World} {B : Nat} {es : Array MapEntry} {c : Nat} (hb : w.heap[B]? = some (.map es c)) (o : Obj) : (setObj B o).run P w = .ok () { w with heap := w.heap.setIfInBounds B o } := by simp [setObj, Sem.run, hb]
theorem same_bits {d : TypeDesc} {k k' : Value} (h : Instr.sameNow d k k' = some true) : Instr.sameBits 10000 k' k = true := by
  cases d <;> cases k <;> cases k' <;> simp [Instr.sameNow] at h
  case string.string.string a b =>
    have h2 : (a.data == b.data) = true := h
    have h3 : b.data = a.data := (eq_of_beq h2).symm
    show (b == a) = true
    show (b.data == a.data) = true
    rw [h3]; exact beq_self_eq_true _
  all_goals simp [Instr.sameBits, h]
theorem HR.mapTurn {ρ : Ren} {h : H} {w0 : Base} {w : World} (r : HR ρ h w0 w) {b : Nat} {es : List Ent} {c : Nat} (hg : h.get b = some (.map es c)) (hro : h.ro ≤ b) {p : Spot} (hρ : ρ b = some p) {es2 : List Ent} {es2' : List MapEntry} {c2 : Nat} (he : EsR ρ es2 es2') :
    HR ρ (h.set b (.map es2 c2)) w0 { w with heap := w.heap.setIfInBounds p.B (.map ⟨es2'⟩ c2) } := by
  obtain ⟨p', h1, h2, h3, _⟩ := r.live b _ hg (by simp)
  obtain rfl : p = p' := by rw [hρ] at h1; exact Option.some.inj h1
  refine r.turn hg (by simp) hro hρ (by simp) (fun k hk => ?_) ⟨rfl, rfl, rfl⟩ ⟨es2', ?_, he⟩
  · show (w.heap.setIfInBounds p.B _)[k]? = _
    rw [Array.getElem?_setIfInBounds_ne (by omega)]
  · show (w.heap.setIfInBounds p.B _)[p.B]? = _
    rw [Array.getElem?_setIfInBounds_self, if_pos h3]
theorem mapUpdateV_ok {P : Program} {E : Env} (hE : EnvOk P E) {ρ : Ren} {h h' : H} {w0 : Base} {w : World} (r : HR ρ h w0 w) {t : TypeId} {m m' k k' v v' : Value} (hl : mapUpdateV E h t m k v = some h') (hm : VR ρ m m') (hk : VR ρ k k') (hv : VR ρ v v') :
    ∃ w', HR ρ h' w0 w' ∧ (Instr.mapUpdate t m' k' v').run P w = .ok () w' := by
  unfold mapUpdateV at hl
  split at hl
  case h_2 => cases hl
  rename_i kt et b hu
  split at hl
  case h_2 => cases hl
  rename_i es clock d hg hd
  split at hl
  case isFalse => cases hl
  rename_i hc
  obtain rfl := hk.key hc.1
  have hr := run_underlying (P := P) (hE.under t _ hu) w
  have hr2 := run_underlying (P := P) (hE.under kt _ hd) w
  have hch := fun b => run_check (P := P) hE hd hc.1 b w
  cases hm with
  | @map _ p hρ =>
    obtain ⟨es', h1, h2⟩ := r.mapAt hg hρ
    have hfk : ∀ q, Instr.findNow d k' es' 0 = some q → (Instr.findKey kt k' es').run P w = .ok q w := fun q hq => by simp [Instr.findKey, hr2, hq]
    split at hl
    · rename_i j u hf
      obtain rfl := Option.some.inj hl
      rcases findV_ok d k' h2 0 _ hf with ⟨g, _⟩ | ⟨j2, u2, u', g1, g2, g3, _, e, g5, g6⟩
      · cases g
      · obtain ⟨rfl, rfl⟩ : j = j2 ∧ u = u2 := by simpa using g1
        have hkt : (Instr.keyThatStays e.key k').run P w = .ok k' w := by simp [Instr.keyThatStays, same_bits g6]
        have hek : ((((⟨es'⟩ : Array MapEntry)[j]?).map (·.key)).getD k') = e.key := by
          have : (⟨es'⟩ : Array MapEntry)[j]? = some e := by simpa using g5
          rw [this]; rfl
        have hmod : (⟨es'⟩ : Array MapEntry).modify j (fun e => { e with key := k', val := v' }) = ⟨es'.modify j fun e => { e with key := k', val := v' }⟩ := by
          apply Array.toList_inj.1; simp
        refine ⟨_, r.mapTurn hg hc.2.2 hρ (h2.set hc.2.1 hv j), ?_⟩
        simp only [Instr.mapUpdate, Sem.run_bind, hr, Result.andThen_ok, getObj, Sem.run, h1, hch, hfk _ g2, hek, hkt, hmod, run_setObj h1]
    · rename_i hf
      obtain rfl := Option.some.inj hl
      rcases findV_ok d k' h2 0 _ hf with ⟨_, g⟩ | ⟨j2, u2, u', g1, _⟩
      · refine ⟨_, r.mapTurn hg hc.2.2 hρ (h2.push hc.2.1 hv clock), ?_⟩
        have hp : (⟨es'⟩ : Array MapEntry).push { key := k', val := v', born := clock } = ⟨es' ++ [⟨k', v', clock⟩]⟩ := by apply Array.toList_inj.1; simp
        simp only [Instr.mapUpdate, Sem.run_bind, hr, Result.andThen_ok, getObj, Sem.run, h1, hch, hfk _ g, hp, run_setObj h1]
      · cases g1
    · cases hl
end Go.Ev
namespace Go.Ev
open Go.RowKit
/-- A block goes on under a new name: the old name is given up. -/
theorem HR.rebase {ρ : Ren} {h : H} {w0 : Base} {w w' : World} (r : HR ρ h w0 w) {b : Nat} {o : AObj} (hg : h.get b = some o) (hd : o ≠ .dead) (hro : h.ro ≤ b) {p : Spot} (hρ : ρ b = some p) {q : Spot} (hq : q.B = p.B)
    (hs : w'.heap.size = w.heap.size) (hk : ∀ k, k ≠ p.B → w'.heap[k]? = w.heap[k]?) (ht : w'.os = w.os ∧ w'.tape = w.tape ∧ w'.output = w.output) {n : AObj} (ho : OR ρ w'.heap[p.B]? q n) :
    HR (ρ.put h.next q) ((h.set b .dead).new n) w0 w' := by
  obtain ⟨p', h1, h2, h3, _⟩ := r.live b _ hg hd
  obtain rfl : p = p' := by rw [hρ] at h1; exact Option.some.inj h1
  have hle : ρ.le (ρ.put h.next q) := Ren.le_put (r.fresh _ (Nat.le_refl _))
  have hlt : b < h.next := Nat.lt_of_not_le fun g => by have := r.known b g; rw [hg] at this; simp at this
  have hnx : (h.set b .dead).next = h.next := rfl
  -- what a name that is alive behind stands for
  have at_ : ∀ (d : Nat) (u : AObj), ((h.set b .dead).new n).get d = some u → u ≠ .dead → (d = h.next ∧ u = n) ∨ (d ≠ h.next ∧ d ≠ b ∧ h.get d = some u) := fun d u hu hud => by
    by_cases e : d = h.next
    · subst e
      have := H.get_new_same (h.set b .dead) n
      rw [hnx] at this
      rw [this] at hu
      exact .inl ⟨rfl, (Option.some.inj hu).symm⟩
    · rw [H.get_new_ne _ _ (by rw [hnx]; exact e)] at hu
      by_cases e2 : d = b
      · subst e2; rw [H.get_set_same] at hu; exact absurd (Option.some.inj hu).symm hud
      · rw [H.get_set_ne _ _ e2] at hu; exact .inr ⟨e, e2, hu⟩
  have old : ∀ (d : Nat) (x : Spot), d ≠ h.next → (ρ.put h.next q) d = some x → ρ d = some x := fun d x e hx => by unfold Ren.put at hx; rwa [if_neg e] at hx
  refine ⟨fun d u hu hud => ?_, fun d d' u u' x x' hu hud hu' hud' hx hx' hne => ?_, fun d hd' => ?_, fun d hd' => ?_, ?_, Nat.le_succ_of_le r.nb, r.ro, fun d hd' => ?_, fun d hd' => ?_⟩
  · rcases at_ d u hu hud with ⟨rfl, rfl⟩ | ⟨e1, e2, e3⟩
    · refine ⟨q, Ren.put_same, by rw [hq]; exact h2, by rw [hq, hs]; exact h3, ?_⟩
      rw [hq]; exact ho.mono hle
    · obtain ⟨C, g1, g2, g3, g4⟩ := r.live d u e3 hud
      refine ⟨C, hle _ _ g1, g2, by rw [hs]; exact g3, ?_⟩
      rw [hk C.B (r.apart d b u o _ _ e3 hud hg hd g1 hρ e2)]
      exact g4.mono hle
  · rcases at_ d u hu hud with ⟨rfl, rfl⟩ | ⟨e1, e2, e3⟩ <;> rcases at_ d' u' hu' hud' with ⟨f1, rfl⟩ | ⟨f1, f2, f3⟩
    · exact absurd f1.symm hne
    · rw [Ren.put_same] at hx
      obtain rfl := Option.some.inj hx
      have := r.apart b d' o u' _ _ hg hd f3 hud' hρ (old d' x' f1 hx') (Ne.symm f2)
      rw [hq]; exact this
    · subst f1
      rw [Ren.put_same] at hx'
      obtain rfl := Option.some.inj hx'
      have := r.apart d b u o _ _ e3 hud hg hd (old d x e1 hx) hρ e2
      rw [hq]; exact this
    · exact r.apart d d' u u' x x' e3 hud f3 hud' (old d x e1 hx) (old d' x' f1 hx') hne
  · have : h.next + 1 ≤ d := hd'
    unfold Ren.put
    rw [if_neg (by omega)]; exact r.fresh d (by omega)
  · have : h.next + 1 ≤ d := hd'
    rw [H.get_new_ne _ _ (by rw [hnx]; omega), H.get_set_ne _ _ (by omega)]; exact r.known d (by omega)
  · exact ⟨ht.1.trans r.low.os, ht.2.1.trans r.low.tape, ht.2.2.trans r.low.output, by rw [hs]; exact r.low.size, fun k hk' => by rw [hk k (fun e => h2 (e ▸ hk')), r.low.block k hk']⟩
  · have := r.nb
    unfold Ren.put
    rw [if_neg (by omega)]; exact r.old d hd'
  · have := r.nb
    rw [H.get_new_ne _ _ (by rw [hnx]; omega), H.get_set_ne _ _ (by rw [r.ro] at hro; omega)]; exact r.keep d hd'
/-- What is appended. -/
def sourceV (h : H) (sz : Nat) (x : Value) : Option (Nat × List Value) :=
  match x with
  | .slice none 0 0 => some (0, [])
  | .slice (some ⟨b, o, none⟩) n _ => match h.get b with
    | some (.cells c _ _) => if o + n * sz ≤ c.length then some (n, (c.drop o).take (n * sz)) else none
    | _ => none
  | _ => none
theorem sourceV_ok {P : Program} {ρ : Ren} {h : H} {w0 : Base} {w : World} (r : HR ρ h w0 w) {sz : Nat} {x x' : Value} {n : Nat} {xs : List Value} (hs : sourceV h sz x = some (n, xs)) (hx : VR ρ x x') :
    ∃ xs', VRs ρ xs xs' ∧ xs'.length = n * sz ∧ (Builtin.lenOf x').run P w = .ok n w ∧ ∀ d, (Builtin.firstCells sz n x').run P { w with drawn := d } = .ok ⟨xs'⟩ { w with drawn := d } := by
  unfold sourceV at hs
  split at hs
  · simp only [Option.some.injEq, Prod.mk.injEq] at hs
    obtain ⟨rfl, rfl⟩ := hs
    cases hx
    exact ⟨[], .nil, by simp, by simp [Builtin.lenOf], fun d => by simp [Builtin.firstCells]⟩
  · rename_i b o m cap
    split at hs
    case h_2 => cases hs
    rename_i c e z hg
    split at hs
    case isFalse => cases hs
    rename_i hc
    simp only [Option.some.injEq, Prod.mk.injEq] at hs
    obtain ⟨rfl, rfl⟩ := hs
    cases hx with
    | @slice _ p _ _ _ cap' hρ _ _ _ =>
      obtain ⟨c', h1, h2, h3⟩ := r.range hg hρ o (m * sz) hc
      refine ⟨c', h1, h2, by simp [Builtin.lenOf], fun d => ?_⟩
      have := run_loadCells_list (P := P) { w with drawn := d } ⟨p.B, p.O + o, none⟩ c' (fun j v hj => by rw [add_mid]; exact h3 j v hj)
      rw [h2] at this
      simpa [Builtin.firstCells] using this
    | @slice0 _ p _ o' cap' hρ _ =>
      refine ⟨[], by simp; exact .nil, by simp, by simp [Builtin.lenOf], fun d => ?_⟩
      simp [Builtin.firstCells, loadCells, loadCellsFrom]
  · cases hs
def appendV (E : Env) (h : H) (t : TypeId) (s x : Value) : Option (Value × H) :=
  match E.under t with
  | some (.slice e) => match E.info e with
    | some j => if flatV j.zero = true ∧ (cellsL j.zero).length = j.size ∧ 0 < j.size ∧ j.bytes ≤ 1000000 then (match sourceV h j.size x with
        | some (n, xs) => if xs.all oneC = true then (match s with
          | .slice none 0 0 => if n = 0 then some (.slice none 0 0, h)
            else if n ≤ 1000000 then some (.slice (some ⟨h.next, 0, none⟩) n n, h.new (.cells xs e j.size)) else none
          | .slice (some ⟨b, o, none⟩) len cap => match h.get b with
            | some (.cells c e2 z) => if z = j.size ∧ len + n ≤ 1000000 ∧ len ≤ cap ∧ h.ro ≤ b then
                (if len + n ≤ cap then (if o + (len + n) * j.size ≤ c.length then some (.slice (some ⟨b, o, none⟩) (len + n) cap, h.set b (.cells (overL c (o + len * j.size) xs) e2 z)) else none)
                else if o + len * j.size ≤ c.length ∧ e2 = e then some (.slice (some ⟨h.next, 0, none⟩) (len + n) (len + n), (h.set b .dead).new (.cells ((c.drop o).take (len * j.size) ++ xs) e j.size)) else none)
              else none
            | _ => none
          | _ => none) else none
        | none => none) else none
    | none => none
  | _ => none
/-- The cells of a new row: what was there, what is appended, and noughts. -/
theorem run_grow {P : Program} {E : Env} (hE : EnvOk P E) {t t2 e e3 : TypeId} {j : TI} (hu : E.under t = some (.slice e)) (hu2 : E.under t2 = some (.slice e3)) (hj : E.info e = some j) (hb : j.bytes ≤ 1000000) {w : World} {a : Option Addr} {len cap n : Nat} {x' : Value} {old xs : List Value} {ty : TypeId}
    (hlen : (Builtin.lenOf x').run P w = .ok n w) (hc : cap < len + n) (hn : len + n ≤ 1000000)
    (hold : ∀ d, (Builtin.firstCells j.size len (.slice a len cap)).run P { w with drawn := d } = .ok ⟨old⟩ { w with drawn := d })
    (hxs : ∀ d, (Builtin.firstCells j.size n x').run P { w with drawn := d } = .ok ⟨xs⟩ { w with drawn := d }) :
    ∃ newCap, len + n ≤ newCap ∧ (Builtin.append_ #[t, t2] ty #[.slice a len cap, x']).run P w = .ok (.slice (some ⟨w.heap.size, 0, none⟩) (len + n) newCap)
      { w with drawn := w.drawn + 1, heap := w.heap.push (.cells ((⟨old⟩ : Array Value) ++ ⟨xs⟩ ++ Builtin.zeroCells j.zero.cells (newCap - (len + n))) e) } := by
  refine ⟨(len + n) + w.tape w.drawn (.appendCap (len + n) cap e) % (2 ^ 63 - (len + n)), Nat.le_add_right _ _, ?_⟩
  have r1 := fun w => run_underlying (P := P) (hE.under t _ hu) w
  have r2 := fun w => run_underlying (P := P) (hE.under t2 _ hu2) w
  have rs := fun w => run_size (P := P) hE hj w
  have rz := fun w => run_zero (P := P) hE hj w
  have c1 : ¬ (len + n ≤ cap) := by omega
  have c2 : ¬ (((len + n : Nat) : Int) > IntKind.i64.max) := by
    have : IntKind.i64.max = 9223372036854775807 := by decide
    rw [this]; omega
  obtain ⟨ji, g1, g2, g3, g4⟩ := run_bytes (P := P) hE hj w
  have g1' : ∀ d, (typeInfo e).run P { w with drawn := d } = .ok ji { w with drawn := d } := fun d => by
    obtain ⟨ji2, q1, q2, q3, q4⟩ := hE.info e j hj
    have e1 : (typeInfo e).run P w = .ok ji2 w := by simp [typeInfo, q1]
    rw [g1] at e1
    obtain rfl : ji = ji2 := by simpa using e1
    simp [typeInfo, q1]
  have c3 : ¬ (Builtin.nextslicecap (len + n) cap * ji.bytes > 2 ^ 48) := by
    have := Go.growslice_fits (bytes := ji.bytes) (show cap < len + n by omega) (by
      rw [g2]
      have := Nat.mul_le_mul hn hb
      omega)
    have e48 : (2 : Nat) ^ 48 = 281474976710656 := by decide
    omega
  have hx0 := hxs (w.drawn + 1)
  have hold0 := hold (w.drawn + 1)
  simp only [Builtin.append_, List.getElem?_toArray, List.getElem?_cons_zero, List.getElem?_cons_succ, Sem.run_bind, r1, Result.andThen_ok, rs, r2, Sem.run_pure, hlen, Bool.false_eq_true, if_false, false_or]
  rw [if_neg c1]
  simp only [Sem.run_bind, g1, Result.andThen_ok]
  rw [if_neg (fun h => c2 h.1)]
  simp only [Sem.run_bind, g1, Result.andThen_ok]
  rw [if_neg c3]
  have hch : ∀ need : Nat, (choose (.appendCap need cap e)).run P w = .ok (need + w.tape w.drawn (.appendCap need cap e) % (2 ^ 63 - need)) { w with drawn := w.drawn + 1 } := fun need => by
    rw [run_choose]; rfl
  simp only [Sem.run_bind, hch, g1', Result.andThen_ok, run_askRoom, hold0, Bool.not_false, if_true, hx0, rz, newRow, run_newObj, Sem.run_pure]
theorem zeroCells_size (z : Array Value) (n : Nat) : (Builtin.zeroCells z n).size = n * z.size := by simp [Builtin.zeroCells]
/-- Where the capacity suffices. -/
theorem run_fit {P : Program} {E : Env} (hE : EnvOk P E) {t t2 e e3 : TypeId} {j : TI} (hu : E.under t = some (.slice e)) (hu2 : E.under t2 = some (.slice e3)) (hj : E.info e = some j) {w w' : World} {B A : Nat} {len cap n : Nat} {x' : Value} {xs : List Value} {ty : TypeId}
    (hlen : (Builtin.lenOf x').run P w = .ok n w) (hc : len + n ≤ cap) (hxs : (Builtin.firstCells j.size n x').run P w = .ok ⟨xs⟩ w)
    (hst : (storeCells ⟨B, A + len * j.size, none⟩ xs).run P w = .ok () w') :
    (Builtin.append_ #[t, t2] ty #[.slice (some ⟨B, A, none⟩) len cap, x']).run P w = .ok (.slice (some ⟨B, A, none⟩) (len + n) cap) w' := by
  have r1 := fun w => run_underlying (P := P) (hE.under t _ hu) w
  have r2 := fun w => run_underlying (P := P) (hE.under t2 _ hu2) w
  have rs := fun w => run_size (P := P) hE hj w
  simp only [Builtin.append_, List.getElem?_toArray, List.getElem?_cons_zero, List.getElem?_cons_succ, Sem.run_bind, r1, Result.andThen_ok, rs, r2, Sem.run_pure, hlen, Bool.false_eq_true, if_false]
  rw [if_pos hc]
  simp only [Bool.not_false, if_true, Sem.run_bind, hxs, Result.andThen_ok, add_mid, hst, Sem.run_pure]
/-- Cells are stored in a row whose frozen cells, if any, lie behind its end. -/
theorem run_storeCells_fr {P : Program} (g o : Nat) (t : TypeId) (fr : Nat × Nat) : ∀ (vs : List Value) (i : Nat) (cur : Array Value) (w : World), w.heap[g]? = some (.cells cur t fr) → FrOk fr cur.size → o + i + vs.length ≤ cur.size → (∀ v ∈ vs, v.oneCell' = true) →
    (storeCells ⟨g, o, none⟩ vs i).run P w = .ok () (w.setRow g (cur.toList.take (o + i) ++ vs ++ cur.toList.drop (o + i + vs.length)).toArray)
  | [], i, cur, w, hg, _, _, _ => by
    simp only [storeCells, List.append_nil, List.length_nil, Nat.add_zero, List.take_append_drop, Array.toArray_toList]
    rw [setRow_self w g cur t fr hg]
    rfl
  | v :: rest, i, cur, w, hg, hfr, hl, h1 => by
    have hi : o + i < cur.size := by simp at hl; omega
    have hcell : w.cell? ⟨g, o + i, none⟩ = some cur[o + i] := by simp [World.cell?, hg, hi]
    have hfro : w.frozen? ⟨g, o + i, none⟩ = false := by
      unfold World.frozen?
      simp only [hg]
      rcases hfr with rfl | hfr
      · simp
      · have : ¬ (fr.1 ≤ o + i) := by omega
        simp [this]
    have hst : (store ((⟨g, o, none⟩ : Addr).add i) v).run P w = .ok () (w.setRow g (cur.setIfInBounds (o + i) v)) := by
      rw [add_mid, run_store P w _ v _ (h1 v (by simp)), hcell]
      simp [hfro, setCell_eq_setRow w g (o + i) cur t fr v hg]
    have ih := run_storeCells_fr (P := P) g o t fr rest (i + 1) (cur.setIfInBounds (o + i) v) (w.setRow g (cur.setIfInBounds (o + i) v)) (setRow_heap w g cur _ t _ hg) (by rw [Array.size_setIfInBounds]; exact hfr) (by simp at hl ⊢; omega) (fun x hx => h1 x (by simp [hx]))
    simp only [storeCells, Sem.run_bind, hst, Result.andThen_ok, ih, setRow_setRow]
    congr 3
    have e := list_seg_step cur.toList (o + i) v rest (by simp at hl ⊢; omega)
    simpa [Array.toList_setIfInBounds, Nat.add_assoc] using e
/-- A row of cells: what was there and what is appended, in an array that holds them from A on. -/
theorem OR_row {ρ : Ren} {c' : Array Value} {e : TypeId} {q : Spot} {z : Nat} {l l' : List Value} (hl : VRs ρ l l') (hget : ∀ i, i < l'.length → c'[q.O + i]? = l'[i]?) (hsz : q.O + l.length ≤ c'.size) (hS : c'.size = q.S) (hz : z = q.z) (hz0 : z ≠ 0) {fr : Nat × Nat} (hfr : FrOk fr c'.size) : OR ρ (some (.cells c' e fr)) q (.cells l e z) :=
  ⟨c', ⟨fr, rfl, hfr⟩, hsz, fun i v hi => by
    obtain ⟨v', h1, h2⟩ := hl.get i v hi
    refine ⟨v', ?_, h2⟩
    rw [hget i (by have := (List.getElem?_eq_some_iff.1 h1).1; exact this)]; exact h1, hS, hz, fun g => absurd g hz0⟩
theorem appendV_ok {P : Program} {E : Env} (hE : EnvOk P E) {ρ : Ren} {h h' : H} {w0 : Base} {w : World} (r : HR ρ h w0 w) {t t2 e3 ty : TypeId} {s s' x x' v : Value} (hl : appendV E h t s x = some (v, h')) (hu2 : E.under t2 = some (.slice e3)) (hs : VR ρ s s') (hx : VR ρ x x') :
    ∃ ρ' v' w', ρ.le ρ' ∧ HR ρ' h' w0 w' ∧ VR ρ' v v' ∧ (Builtin.append_ #[t, t2] ty #[s', x']).run P w = .ok v' w' := by
  unfold appendV at hl
  split at hl
  case h_2 => cases hl
  rename_i e hu
  split at hl
  case h_2 => cases hl
  rename_i j hj
  split at hl
  case isFalse => cases hl
  rename_i hc
  split at hl
  case h_2 => cases hl
  rename_i n xs hsrc
  split at hl
  case isFalse => cases hl
  rename_i hone
  obtain ⟨xs', x1, x2, x3, x4⟩ := sourceV_ok (P := P) r hsrc hx
  have x5 : (Builtin.firstCells j.size n x').run P w = .ok ⟨xs'⟩ w := x4 w.drawn
  have xlen : xs.length = n * j.size := by rw [← x1.length, x2]
  have hzs : j.zero.cells.size = j.size := by rw [cells_cellsL]; exact hc.2.1
  -- a new row in a new block
  have fresh : ∀ (h2 : H) (r2 : HR ρ h2 w0 w) (hn2 : h2.next = h.next) (a : Option Addr) (len cap : Nat) (old old' : List Value) (_ : VRs ρ old old') (_ : old.length = len * j.size) (_ : cap < len + n) (_ : len + n ≤ 1000000)
      (_ : ∀ d, (Builtin.firstCells j.size len (.slice a len cap)).run P { w with drawn := d } = .ok ⟨old'⟩ { w with drawn := d }),
      ∃ ρ' v' w', ρ.le ρ' ∧ HR ρ' (h2.new (.cells (old ++ xs) e j.size)) w0 w' ∧ VR ρ' (.slice (some ⟨h.next, 0, none⟩) (len + n) (len + n)) v' ∧ (Builtin.append_ #[t, t2] ty #[.slice a len cap, x']).run P w = .ok v' w' := by
    intro h2 r2 hn2 a len cap old old' ho hol hcap hmax hfirst
    obtain ⟨newCap, g1, g2⟩ := run_grow (P := P) (ty := ty) hE hu hu2 hj hc.2.2.2 x3 hcap hmax hfirst x4
    have hcat : VRs ρ (old ++ xs) (old' ++ xs') := ho.append x1
    have hlen1 : (old' ++ xs').length = (len + n) * j.size := by rw [List.length_append, ho.length, hol, x2, Nat.add_mul]
    have hsum : (len + n) * j.size + (newCap - (len + n)) * j.size = newCap * j.size := by rw [← Nat.add_mul, Nat.add_sub_cancel' g1]
    have hsz : ((⟨old'⟩ : Array Value) ++ ⟨xs'⟩ ++ Builtin.zeroCells j.zero.cells (newCap - (len + n))).size = newCap * j.size := by
      rw [Array.size_append, Array.size_append, zeroCells_size, hzs, ← hsum]
      show old'.length + xs'.length + _ = _
      rw [← List.length_append, hlen1]
    have rn := (r2.drew (w.drawn + 1)).new (o := .cells (old ++ xs) e j.size) (obj := .cells ((⟨old'⟩ : Array Value) ++ ⟨xs'⟩ ++ Builtin.zeroCells j.zero.cells (newCap - (len + n))) e) (S := newCap * j.size) (z := j.size)
      (OR_row hcat (fun i hi => by
        show _[0 + i]? = _
        rw [Nat.zero_add, Array.getElem?_append_left (by show i < (⟨old'⟩ ++ ⟨xs'⟩ : Array Value).size; rw [Array.size_append]; show i < old'.length + xs'.length; rw [← List.length_append]; exact hi)]
        simp) (by show 0 + (old ++ xs).length ≤ _; rw [hsz, ← hcat.length, hlen1]; omega) hsz rfl (Nat.pos_iff_ne_zero.1 hc.2.2.1) (.inl rfl))
    rw [hn2] at rn
    exact ⟨_, _, _, by rw [← hn2]; exact Ren.le_put (r2.fresh _ (Nat.le_refl _)), rn, .slice 0 (len + n) (len + n) newCap Ren.put_same g1 (Nat.le_refl _) (by show 0 + 0 + newCap * j.size ≤ newCap * j.size; omega), g2⟩
  split at hl
  · split at hl
    · rename_i hn0
      simp only [Option.some.injEq, Prod.mk.injEq] at hl
      obtain ⟨rfl, rfl⟩ := hl
      cases hs
      subst hn0
      have hx0 : xs' = [] := List.eq_nil_of_length_eq_zero (by rw [x2]; omega)
      subst hx0
      refine ⟨ρ, _, w, ρ.le_refl, r, .snil, ?_⟩
      have r1 := fun w => run_underlying (P := P) (hE.under t _ hu) w
      have r2 := fun w => run_underlying (P := P) (hE.under t2 _ hu2) w
      have rs := fun w => run_size (P := P) hE hj w
      simp only [Builtin.append_, List.getElem?_toArray, List.getElem?_cons_zero, List.getElem?_cons_succ, Sem.run_bind, r1, Result.andThen_ok, rs, r2, Sem.run_pure, x3, Bool.false_eq_true, if_false]
      simp [x5]
    · rename_i hn0
      split at hl
      case isFalse => cases hl
      rename_i hmax
      simp only [Option.some.injEq, Prod.mk.injEq] at hl
      obtain ⟨rfl, rfl⟩ := hl
      cases hs
      have := fresh h r rfl none 0 0 [] [] .nil (by simp) (by omega) (by omega) (fun d => by simp [Builtin.firstCells])
      simpa using this
  · rename_i b o len cap
    split at hl
    case h_2 => cases hl
    rename_i c e2 z hg
    split at hl
    case isFalse => cases hl
    rename_i hz
    have hlt : b < h.next := Nat.lt_of_not_le fun g => by have := r.known b g; rw [hg] at this; simp at this
    split at hl
    · rename_i hfit
      split at hl
      case isFalse => cases hl
      rename_i hroom
      simp only [Option.some.injEq, Prod.mk.injEq] at hl
      obtain ⟨rfl, rfl⟩ := hl
      cases hs with
      | @slice _ p _ _ _ cap' hρ hcc hll hss =>
        have hroom2 : o + len * j.size + 0 + xs.length ≤ c.length := by rw [xlen]; rw [Nat.add_mul] at hroom; omega
        obtain ⟨w', s1, s2⟩ := HR.stores (P := P) hρ (o + len * j.size) x1 0 r hg hz.2.2.2 hroom2 hone
        refine ⟨ρ, _, w', ρ.le_refl, s1, .slice o (len + n) cap cap' hρ hcc hfit hss, ?_⟩
        rw [← Nat.add_assoc] at s2
        exact run_fit (P := P) hE hu hu2 hj x3 (by omega) x5 s2
      | @slice0 _ p _ o' cap' hρ hss =>
        obtain rfl : n = 0 := by omega
        have hx0 : xs' = [] := List.eq_nil_of_length_eq_zero (by rw [x2]; omega)
        subst hx0
        have hx1 : xs = [] := List.eq_nil_of_length_eq_zero (by rw [xlen]; omega)
        subst hx1
        refine ⟨ρ, _, w, ρ.le_refl, r.congr (fun d => ?_) rfl, .slice0 o o' cap' hρ hss, ?_⟩
        · by_cases q : d = b
          · subst q; rw [H.get_set_same, hg]; rfl
          · rw [H.get_set_ne _ _ q]
        · exact run_fit (P := P) (len := 0) hE hu hu2 hj x3 (by omega) x5 (by simp [storeCells])
    · rename_i hfit
      split at hl
      case isFalse => cases hl
      rename_i hroom
      obtain ⟨hroom, rfl⟩ := hroom
      simp only [Option.some.injEq, Prod.mk.injEq] at hl
      obtain ⟨rfl, rfl⟩ := hl
      -- the old row, wherever it lies
      have main : ∀ (p : Spot) (A cap' : Nat), ρ b = some p → A + cap' * p.z ≤ p.S → (0 < len → A = p.O + o) → len ≤ cap' →
          ∃ ρ' v' w', ρ.le ρ' ∧ HR ρ' ((h.set b .dead).new (.cells ((c.drop o).take (len * j.size) ++ xs) e2 j.size)) w0 w' ∧ VR ρ' (.slice (some ⟨h.next, 0, none⟩) (len + n) (len + n)) v' ∧ (Builtin.append_ #[t, t2] ty #[.slice (some ⟨p.B, A, none⟩) len cap', x']).run P w = .ok v' w' := by
        intro p A cap' hρ hss hA hll
        obtain ⟨old', o1, o2, o3⟩ := r.range hg hρ o (len * j.size) hroom
        have hpz := (r.spot hg hρ).1
        have hzj : p.z = j.size := by omega
        have hold : ((c.drop o).take (len * j.size)).length = len * j.size := by rw [← o1.length, o2]
        have hAr : ∀ k v, old'[k]? = some v → w.cell? ⟨p.B, A + k, none⟩ = some v := fun k v hk => by
          have hk2 := (List.getElem?_eq_some_iff.1 hk).1
          have : 0 < len := by rcases Nat.eq_zero_or_pos len with g | g; (subst g; simp at o2; subst o2; simp at hk2); exact g
          rw [hA this]; exact o3 k v hk
        by_cases cfit : len + n ≤ cap'
        · -- in place
          obtain ⟨p', l1, l2, l3, c', ⟨fr, l4, hfr⟩, l5, l6, l7, l8, _⟩ := r.live b _ hg (by simp)
          obtain rfl : p = p' := by rw [hρ] at l1; exact Option.some.inj l1
          have hin : (len + n) * j.size ≤ cap' * p.z := by rw [hzj]; exact Nat.mul_le_mul_right _ cfit
          rw [Nat.add_mul] at hin
          have hxone : ∀ u ∈ xs', u.oneCell' = true := by
            have : ∀ {l l' : List Value}, VRs ρ l l' → l.all oneC = true → ∀ u ∈ l', u.oneCell' = true := by
              intro l l' hh
              induction l generalizing l' with
              | nil => intro _ u hu; cases hh; simp at hu
              | cons y l ih =>
                intro ha u hu
                cases hh with
                | cons hy ht =>
                  simp only [List.all_cons, Bool.and_eq_true] at ha
                  rcases List.mem_cons.1 hu with rfl | hu
                  · exact hy.one ha.1
                  · exact ih ht ha.2 u hu
            exact this x1 hone
          have hst := run_storeCells_fr (P := P) p.B (A + len * j.size) e2 fr xs' 0 c' w l4 hfr (by rw [x2]; omega) hxone
          have hrow := setRow_heap w p.B c' (c'.toList.take (A + len * j.size + 0) ++ xs' ++ c'.toList.drop (A + len * j.size + 0 + xs'.length)).toArray e2 fr l4
          have hsize : (c'.toList.take (A + len * j.size + 0) ++ xs' ++ c'.toList.drop (A + len * j.size + 0 + xs'.length)).length = c'.size := by
            simp only [List.length_append, List.length_take, List.length_drop, Array.length_toList, x2]
            omega
          have hre := r.rebase hg (by simp) hz.2.2.2 hρ (q := ⟨p.B, A, p.S, p.z⟩) (w' := w.setRow p.B (c'.toList.take (A + len * j.size + 0) ++ xs' ++ c'.toList.drop (A + len * j.size + 0 + xs'.length)).toArray) rfl (by simp) (fun k hk => setRow_other w p.B k _ hk) ⟨rfl, rfl, rfl⟩ (n := .cells ((c.drop o).take (len * j.size) ++ xs) e2 j.size) (by
              rw [hrow]
              refine OR_row (l' := old' ++ xs') (q := ⟨p.B, A, p.S, p.z⟩) (o1.append x1) (fun i hi => ?_) ?_ ?_ hzj.symm (Nat.pos_iff_ne_zero.1 hc.2.2.1) (by rw [List.size_toArray, hsize]; exact hfr)
              · show (List.toArray _)[A + i]? = _
                rw [List.getElem?_toArray]
                rw [List.length_append, o2, x2] at hi
                by_cases ci : i < len * j.size
                · rw [List.append_assoc, List.getElem?_append_left (by simp; omega), List.getElem?_take_of_lt (by omega), List.getElem?_append_left (by omega)]
                  have hk3 : old'[i]? = some old'[i] := List.getElem?_eq_getElem (by omega)
                  have := hAr i _ hk3
                  rw [hk3]
                  unfold World.cell? at this
                  simp only [l4] at this
                  simpa using this
                · rw [List.append_assoc, List.getElem?_append_right (by simp; omega), List.getElem?_append_left (by simp; omega), List.getElem?_append_right (by omega)]
                  congr 1
                  simp only [List.length_take, Array.length_toList]
                  omega
              · show A + _ ≤ (List.toArray _).size
                rw [List.size_toArray, hsize, List.length_append, hold, xlen]; omega
              · show (List.toArray _).size = p.S
                rw [List.size_toArray, hsize]; exact l7)
          refine ⟨_, _, _, Ren.le_put (r.fresh _ (Nat.le_refl _)), hre, .slice 0 (len + n) (len + n) cap' Ren.put_same cfit (Nat.le_refl _) (by show A + 0 + cap' * p.z ≤ p.S; omega), ?_⟩
          exact run_fit (P := P) hE hu hu2 hj x3 cfit x5 hst
        · -- a new block
          exact fresh (h.set b .dead) (r.kill hlt hz.2.2.2) rfl _ len cap' _ old' o1 hold (by omega) hz.2.1 (fun d => by
            have := run_loadCells_list (P := P) { w with drawn := d } ⟨p.B, A, none⟩ old' (fun k v hk => by rw [add_mid]; exact hAr k v hk)
            rw [o2] at this
            simpa [Builtin.firstCells] using this)
      cases hs with
      | @slice _ p _ _ _ cap' hρ hcc hll hss => exact main p (p.O + o) cap' hρ hss (fun _ => rfl) (by omega)
      | @slice0 _ p _ o' cap' hρ hss => exact main p o' cap' hρ hss (fun g => absurd g (Nat.lt_irrefl 0)) (Nat.zero_le _)
  · cases hl
end Go.Ev
