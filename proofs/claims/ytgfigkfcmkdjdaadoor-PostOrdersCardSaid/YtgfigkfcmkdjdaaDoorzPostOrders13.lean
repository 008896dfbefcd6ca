/- The functions that the law reaches, as plain Lean functions, and their contracts: texts merged. -/
import Derived.Laws.StructEq
import Derived.Test.YtgfigkfcmkdjdaaDoorzPostOrders3
import Derived.Test.YtgfigkfcmkdjdaaDoorzPostOrders0
import Derived.Test.YtgfigkfcmkdjdaaDoorzPostOrders1
import Derived.Test.YtgfigkfcmkdjdaaDoorzPostOrders2
import Derived.Test.YtgfigkfcmkdjdaaDoorzPostOrders4
import Derived.Test.YtgfigkfcmkdjdaaDoorzPostOrders5
import Derived.Test.YtgfigkfcmkdjdaaDoorzPostOrders6
import Derived.Test.YtgfigkfcmkdjdaaDoorzPostOrders7
import Derived.Test.YtgfigkfcmkdjdaaDoorzPostOrders8
import Derived.Test.YtgfigkfcmkdjdaaDoorzPostOrders9
import Derived.Test.YtgfigkfcmkdjdaaDoorzPostOrders10
import Derived.Test.YtgfigkfcmkdjdaaDoorzPostOrders11
import Derived.Test.YtgfigkfcmkdjdaaDoorzPostOrders12
section
namespace Go.Proofs.YtgfigkfcmkdjdaaDoor.B
open Go.RowKit Go.Proofs.YtgfigkfcmkdjdaaDoorW.PrintWords Go.Proofs.YtgfigkfcmkdjdaaDoorW.PrintLast Go.Proofs.YtgfigkfcmkdjdaaDoorW.PrintMore
attribute [local go_sem] max2_int min2_int max_two min_two max_three min_three max_four min_four   -- for this text's walks alone
set_option linter.unusedVariables false
set_option linter.unusedSimpArgs false
structure FormPre (g : Nat) (p : PlS) (L : List S78) (F : FormS) (k : Nat) (W : World) : Prop where
  form : FormIs g p F k W
  vals : F.vals = valsOf L
  gl : g < W.heap.size
  al : p.a < W.heap.size
  vl : p.v < W.heap.size
  ol : ∀ a, p.A = some a → a.block < W.heap.size
structure TwoBox (W0 : World) (g : Nat) (p : PlS) (L : List S78) (r b : Nat) (T : TypeId) (F : FormS) (k : Nat) (rs cs : Array Value) (W : World) : Prop where
  form : FormIs g p F k W
  vals : F.vals = valsOf L
  res : W.heap[r]? = some (.cells rs T (0, 0))
  box : W.heap[b]? = some (.cells cs T (0, 0))
  tu : Turned (FormB g p) W0 W
  hr : W0.heap.size ≤ r
  hb : W0.heap.size ≤ b
  rb : r ≠ b
  gl : g < W0.heap.size
  al : p.a < W0.heap.size
  vl : p.v < W0.heap.size
  ol : ∀ a, p.A = some a → a.block < W0.heap.size
theorem Turned.far {S : Nat → Prop} {a w : World} (h : Turned S a w) {q : Addr} (hq : a.heap.size ≤ q.block) (u : Value) : Turned S a (w.setCell q u) :=
  ⟨h.os, h.tape, h.output, by rw [World.size_setCell]; exact h.size, fun k hk hs => (Below.heap_setCell _ _ _ _ (by omega)).trans (h.block k hk hs)⟩
theorem TwoBox.start {g : Nat} {p : PlS} {L : List S78} {F : FormS} {k : Nat} {W : World} (h : FormPre g p L F k W) (Z : Array Value) (T : TypeId) :
    TwoBox W g p L W.heap.size (W.heap.size + 1) T F k Z Z ((W.alloc (.cells Z T)).alloc (.cells Z T)) := by
  have hs : (W.alloc (.cells Z T)).heap.size = W.heap.size + 1 := World.size_alloc _ _
  have b1 : Below W.heap.size W ((W.alloc (.cells Z T)).alloc (.cells Z T)) := ((Below.refl _ _).alloc (Nat.le_refl _) _).alloc (by rw [hs]; omega) _
  have n2 := blk_new (W.alloc (.cells Z T)) (.cells Z T)
  rw [hs] at n2
  exact ⟨h.form.below b1, h.vals, blk_alloc (blk_new _ _) _, n2, Turned.of_below b1, Nat.le_refl _, by omega, by omega, h.gl, h.al, h.vl, h.ol⟩
section
variable {W0 : World} {g : Nat} {p : PlS} {L : List S78} {r b : Nat} {T : TypeId} {F F' : FormS} {k k' : Nat} {rs cs : Array Value} {W W' : World}
theorem TwoBox.call (h : TwoBox W0 g p L r b T F k rs cs W) (hf : FormIs g p F' k' W') (hv : F'.vals = F.vals) (ht : Turned (FormB g p) W W') : TwoBox W0 g p L r b T F' k' rs cs W' := by
  have e1 := h.hr; have e2 := h.hb; have e3 := h.gl; have e4 := h.al
  exact ⟨hf, hv.trans h.vals, (ht.block r (blk_lt h.res) (fun e => by rcases e with e | e <;> omega)).trans h.res, (ht.block b (blk_lt h.box) (fun e => by rcases e with e | e <;> omega)).trans h.box, h.tu.trans ht, h.hr, h.hb, h.rb, h.gl, h.al, h.vl, h.ol⟩
theorem TwoBox.below (h : TwoBox W0 g p L r b T F k rs cs W) (hb : Below W.heap.size W W') : TwoBox W0 g p L r b T F k rs cs W' := h.call (h.form.below hb) rfl (Turned.of_below hb)
theorem TwoBox.set (h : TwoBox W0 g p L r b T F k rs cs W) (j : Nat) (v : Value) : TwoBox W0 g p L r b T F k rs (cs.setIfInBounds j v) (W.setCell ⟨b, j, none⟩ v) := by
  have e1 := h.hr; have e2 := h.hb; have e3 := h.gl; have e4 := h.al; have e5 := h.vl
  exact ⟨h.form.turned (S := fun x => x = b) (Turned.setCell (S := fun x => x = b) (Turned.refl _ _) (p := ⟨b, j, none⟩) rfl _) (by show ¬ g = b; omega) (by show ¬ p.a = b; omega) (by show ¬ p.v = b; omega) (fun a ha => by have := h.ol a ha; show ¬ a.block = b; omega), h.vals,
    (Below.heap_setCell W ⟨b, j, none⟩ v r h.rb).trans h.res, blk_set h.box j v, h.tu.far e2 _, h.hr, h.hb, h.rb, h.gl, h.al, h.vl, h.ol⟩
theorem TwoBox.setR (h : TwoBox W0 g p L r b T F k rs cs W) (j : Nat) (v : Value) : TwoBox W0 g p L r b T F k (rs.setIfInBounds j v) cs (W.setCell ⟨r, j, none⟩ v) := by
  have e1 := h.hr; have e2 := h.hb; have e3 := h.gl; have e4 := h.al; have e5 := h.vl
  exact ⟨h.form.turned (S := fun x => x = r) (Turned.setCell (S := fun x => x = r) (Turned.refl _ _) (p := ⟨r, j, none⟩) rfl _) (by show ¬ g = r; omega) (by show ¬ p.a = r; omega) (by show ¬ p.v = r; omega) (fun a ha => by have := h.ol a ha; show ¬ a.block = r; omega), h.vals,
    blk_set h.res j v, (Below.heap_setCell W ⟨r, j, none⟩ v b (Ne.symm h.rb)).trans h.box, h.tu.far e1 _, h.hr, h.hb, h.rb, h.gl, h.al, h.vl, h.ol⟩
theorem TwoBox.name (h : TwoBox W0 g p L r b T F k rs cs W) {t : Int} {v : ByteArray} (E : askL takeName ⟨#[]⟩ F t = (v, F')) (ht : i64ok t) (hk : k ≤ 1000) (hz : ∀ y ∈ L, y.f1.size ≤ 512) :
    Calls Tryd.prog 60 #[.pointer (some ⟨g, 0, none⟩), .int .i64 t] W fun e w' => e = .returned (.string v) ∧ TwoBox W0 g p L r b T F' (k + 1) rs cs w' := by
  have h1 := form_name g p F k W h.form (by omega) (fun x s hx => by
    rw [h.vals] at hx
    obtain ⟨y, hy, _, rfl⟩ := valsOf_mem _ _ _ hx
    have := hz y hy
    omega) t ht
  have hv := askL_vals takeName ⟨#[]⟩ F t
  rw [E] at h1 hv
  exact h1.mono fun e w' hh => ⟨hh.1, h.call hh.2.1 hv hh.2.2⟩
theorem TwoBox.int (h : TwoBox W0 g p L r b T F k rs cs W) {t low high : Int} {v : Int} (E : askL (fun s => takeInt s low high) 0 F t = (v, F')) (ht : i64ok t) (hk : k ≤ 1000) (hz : ∀ y ∈ L, y.f1.size ≤ 512) :
    Calls Tryd.prog 61 #[.pointer (some ⟨g, 0, none⟩), .int .i64 t, .int .i64 low, .int .i64 high] W fun e w' => e = .returned (.int .i64 v) ∧ TwoBox W0 g p L r b T F' (k + 1) rs cs w' := by
  have h1 := form_int g p F k W h.form (by omega) (fun x s hx => by
    rw [h.vals] at hx
    obtain ⟨y, hy, _, rfl⟩ := valsOf_mem _ _ _ hx
    have := hz y hy
    omega) t low high ht h.form.alt
  have hv := askL_vals (fun s => takeInt s low high) 0 F t
  rw [E] at h1 hv
  exact h1.mono fun e w' hh => ⟨hh.1, h.call hh.2.1 hv hh.2.2⟩
theorem TwoBox.kind (h : TwoBox W0 g p L r b T F k rs cs W) (hk : k ≤ 1000) (he : F.e = 0) {s : ByteArray} (hs : (F.vals 35).getD ⟨#[]⟩ = s) :
    Calls Tryd.prog 59 #[.pointer (some ⟨g, 0, none⟩)] W fun e w' => e = .returned (.string s) ∧ TwoBox W0 g p L r b T (F.mark 35) (k + 1) rs cs w' := by
  have h1 := form_kind g p F k W h.form (by omega)
  rw [hs] at h1
  exact h1.mono fun e w' hh => ⟨hh.1, h.call (F' := F.mark 35) (hh.2.2 he).1 rfl (hh.2.2 he).2⟩
theorem form_done_q (h : FormIs g p F k W) (hl : F.order.length ≤ 1000) {t e0 : Int} (hd : doneL F = (t, e0)) :
    Calls Tryd.prog 62 #[.pointer (some ⟨g, 0, none⟩)] W fun e w' => e = .returned (.tuple #[.int .i64 t, .int .i64 e0]) ∧ Below W.heap.size W w' := by
  unfold doneL at hd
  by_cases he : F.e = 0
  · rw [if_neg (by simpa using he)] at hd
    have h1 := form_done_ok g p F k W h he (by omega)
    rw [hd] at h1
    exact h1.mono fun e w' hh => by
      obtain ⟨h2, rfl⟩ := hh
      exact ⟨h2, Below.refl _ _⟩
  · rw [if_pos he] at hd
    have h1 := form_done_e g p F k W h he
    simp only [Prod.mk.injEq] at hd
    rw [hd.1, hd.2] at h1
    exact h1.mono fun e w' hh => by
      obtain ⟨h2, q, rfl⟩ := hh
      exact ⟨h2, pw_below_drewN (Below.refl _ _) q⟩
theorem TwoBox.done (h : TwoBox W0 g p L r b T F k rs cs W) (hl : F.order.length ≤ 1000) {t e0 : Int} (hd : doneL F = (t, e0)) :
    Calls Tryd.prog 62 #[.pointer (some ⟨g, 0, none⟩)] W fun e w' => e = .returned (.tuple #[.int .i64 t, .int .i64 e0]) ∧ TwoBox W0 g p L r b T F k rs cs w' :=
  (form_done_q h.form hl hd).mono fun e w' hh => ⟨hh.1, h.below hh.2⟩
def TakeIs (g : Nat) (p : PlS) (L : List S78) (cells : Array Value) (t x : Int) (F' : FormS) (W : World) (e : Ending) (w' : World) : Prop :=
  e = .returned (.tuple #[.agg cells, .int .i64 t, .int .i64 x]) ∧ (∃ k, k ≤ 1000 ∧ FormIs g p F' k w') ∧ F'.vals = valsOf L ∧ Turned (FormB g p) W w'
theorem TwoBox.take {t x : Int} (h : TwoBox W0 g p L r b T F k rs cs W) (hk : k ≤ 1000) {cells : Array Value} : TakeIs g p L cells t x F W0 (.returned (.tuple #[.agg cells, .int .i64 t, .int .i64 x])) W := ⟨rfl, ⟨k, hk, h.form⟩, h.vals, h.tu⟩
theorem TwoBox.fill7 {a0 a1 a2 a3 a4 a5 a6 : Value} (h : TwoBox W0 g p L r b T F k #[a0, a1, a2, a3, a4, a5, a6] cs W) (v0 v1 v2 v3 v4 v5 v6 : Value) :
    TwoBox W0 g p L r b T F k #[v0, v1, v2, v3, v4, v5, v6] cs (((((((W.setCell ⟨r, 0, none⟩ v0).setCell ⟨r, 1, none⟩ v1).setCell ⟨r, 2, none⟩ v2).setCell ⟨r, 3, none⟩ v3).setCell ⟨r, 4, none⟩ v4).setCell ⟨r, 5, none⟩ v5).setCell ⟨r, 6, none⟩ v6) := by
  have h2 := ((((((h.setR 0 v0).setR 1 v1).setR 2 v2).setR 3 v3).setR 4 v4).setR 5 v5).setR 6 v6
  simp only [List.setIfInBounds_toArray, List.set_cons_zero, List.set_cons_succ] at h2
  exact h2
end
def zOrd : OrdV := ⟨0, 0, ⟨#[]⟩, ⟨#[]⟩, 0, 0, 0⟩
def ordKind (s : ByteArray) : Nat := if s = ⟨#[68]⟩ then 1 else if s = ⟨#[70]⟩ then 2 else if s = ⟨#[71]⟩ then 3 else 0
def ordSchema : Nat → List AskT
  | 1 => [.int 34 1 1099511627776, .name 11, .name 55, .int 54 1 2, .int 38 1 1099511627776, .int 44 1 1099511627776]
  | 2 => [.int 34 1 1099511627776, .name 11]
  | 3 => [.int 34 1 1099511627776, .name 11, .int 38 1 1099511627776, .int 44 1 1099511627776]
  | _ => []
def ordOf : Nat → List ValT → OrdV
  | 1, [v0, v1, v2, v3, v4, v5] => ⟨1, v0.num, v1.str, v2.str, v3.num, v4.num, v5.num⟩
  | 2, [v0, v1] => ⟨2, v0.num, v1.str, ⟨#[]⟩, 0, 0, 0⟩
  | 3, [v0, v1, v2, v3] => ⟨3, v0.num, v1.str, ⟨#[]⟩, 0, v2.num, v3.num⟩
  | _, _ => zOrd
def takeO (v : ByteArray) (F : FormS) : (OrdV × Int × Int) × FormS :=
  if ordKind v = 0 then ((zOrd, 35, 120), F.mark 35) else ((ordOf (ordKind v) (asksT (ordSchema (ordKind v)) (F.mark 35)).1, 0, 0), (asksT (ordSchema (ordKind v)) (F.mark 35)).2)
theorem FormIs.pre {g : Nat} {p : PlS} {L : List S78} {F : FormS} {k : Nat} {w : World} (h : FormIs g p F k w) (hv : F.vals = valsOf L) (hl : 0 < F.order.length) : FormPre g p L F k w := by
  refine ⟨h, hv, h.lt, h.alt, ?_, fun x hx => ?_⟩
  · obtain ⟨D, h1, _⟩ := h.vals
    exact h1.lt
  · obtain ⟨ad, hA, hc, _⟩ := h.ord 0 hl
    obtain rfl : ad = x := Option.some.inj (hA.symm.trans hx)
    have := World.block_lt_of_cell? w _ hc
    rwa [addr_block] at this
theorem blk_fill7 {W : World} {b : Nat} {T : TypeId} {a0 a1 a2 a3 a4 a5 a6 : Value} (h : W.heap[b]? = some (.cells #[a0, a1, a2, a3, a4, a5, a6] T (0, 0))) (v0 v1 v2 v3 v4 v5 v6 : Value) :
    (((((((W.setCell ⟨b, 0, none⟩ v0).setCell ⟨b, 1, none⟩ v1).setCell ⟨b, 2, none⟩ v2).setCell ⟨b, 3, none⟩ v3).setCell ⟨b, 4, none⟩ v4).setCell ⟨b, 5, none⟩ v5).setCell ⟨b, 6, none⟩ v6).heap[b]? = some (.cells #[v0, v1, v2, v3, v4, v5, v6] T (0, 0)) := by
  have h2 := (blk_set (blk_set (blk_set (blk_set (blk_set (blk_set (blk_set h 0 v0) 1 v1) 2 v2) 3 v3) 4 v4) 5 v5) 6 v6)
  simp only [List.setIfInBounds_toArray, List.set_cons_zero, List.set_cons_succ] at h2
  exact h2
theorem low_fill7 {w W : World} (hl : Below w.heap.size w W) (v0 v1 v2 v3 v4 v5 v6 : Value) : Below w.heap.size w (((((((W.setCell ⟨w.heap.size, 0, none⟩ v0).setCell ⟨w.heap.size, 1, none⟩ v1).setCell ⟨w.heap.size, 2, none⟩ v2).setCell ⟨w.heap.size, 3, none⟩ v3).setCell ⟨w.heap.size, 4, none⟩ v4).setCell ⟨w.heap.size, 5, none⟩ v5).setCell ⟨w.heap.size, 6, none⟩ v6) :=
  low_set (low_set (low_set (low_set (low_set (low_set (low_set hl _ _) _ _) _ _) _ _) _ _) _ _) _ _
def orderD (s : ByteArray) : OrdV × Int × Int :=
  match readB s with
  | (none, e) => (zOrd, 0, e)
  | (some F, _) =>
    if (takeO ((F.vals 35).getD ⟨#[]⟩) F).1.2.2 ≠ 0 then (zOrd, (takeO ((F.vals 35).getD ⟨#[]⟩) F).1.2)
    else if (doneL (takeO ((F.vals 35).getD ⟨#[]⟩) F).2).2 ≠ 0 then (zOrd, doneL (takeO ((F.vals 35).getD ⟨#[]⟩) F).2) else ((takeO ((F.vals 35).getD ⟨#[]⟩) F).1.1, 0, 0)
theorem orderD_bad {s : ByteArray} {F F' : FormS} {x : Int} {v : ByteArray} {o : OrdV} {t e : Int} (h : readB s = (some F, x)) (hv : (F.vals 35).getD ⟨#[]⟩ = v) (ht : takeO v F = ((o, t, e), F')) (he : e ≠ 0) : orderD s = (zOrd, t, e) := by
  unfold orderD; rw [h]; simp only [hv, ht]; rw [if_pos he]
theorem orderD_good {s : ByteArray} {F F' : FormS} {x : Int} {v : ByteArray} {o : OrdV} {t0 t : Int} (h : readB s = (some F, x)) (hv : (F.vals 35).getD ⟨#[]⟩ = v) (ht : takeO v F = ((o, t0, 0), F')) (hd : doneL F' = (t, 0)) : orderD s = (o, 0, 0) := by
  unfold orderD; rw [h]; simp only [hv, ht, hd]; rw [if_neg (by simp), if_neg (by simp)]
end Go.Proofs.YtgfigkfcmkdjdaaDoor.B
end
section
namespace Go.Proofs.YtgfigkfcmkdjdaaDoor.B
open Go.RowKit Go.Proofs.YtgfigkfcmkdjdaaDoorW.PrintWords Go.Proofs.YtgfigkfcmkdjdaaDoorW.PrintLast Go.Proofs.YtgfigkfcmkdjdaaDoorW.PrintMore
attribute [local go_sem] max2_int min2_int max_two min_two max_three min_three max_four min_four   -- for this text's walks alone
set_option linter.unusedVariables false
set_option linter.unusedSimpArgs false
structure RepV where
  f0 : Int
  f1 : Int
  f2 : ByteArray
  f3 : ByteArray
  f4 : Int
  f5 : Int
  f6 : ByteArray
def rightP (a : RepV) : Bool := decide (1 ≤ a.f0 ∧ a.f0 ≤ 7) && (decide (1 ≤ a.f1 ∧ a.f1 ≤ 1099511627776) && (nameL a.f2.data.toList 0 &&
  ((if a.f0 = 7 then decide (a.f3 = ⟨#[]⟩) else nameL a.f3.data.toList 0) &&
   ((if a.f0 = 5 then decide (1 ≤ a.f4 ∧ a.f4 ≤ 1099511627776) && decide (1 ≤ a.f5 ∧ a.f5 ≤ 1099511627776) else decide (a.f4 = 0) && decide (a.f5 = 0)) &&
    (if a.f0 = 6 then nameL a.f6.data.toList 0 else decide (a.f6 = ⟨#[]⟩))))))
theorem rightP_iff (a : RepV) : rightP a = true ↔ (1 ≤ a.f0 ∧ a.f0 ≤ 7) ∧ (1 ≤ a.f1 ∧ a.f1 ≤ 1099511627776) ∧ nameL a.f2.data.toList 0 = true ∧
    ((if a.f0 = 7 then a.f3 = ⟨#[]⟩ else nameL a.f3.data.toList 0 = true) ∧ (a.f0 = 5 → (1 ≤ a.f4 ∧ a.f4 ≤ 1099511627776) ∧ (1 ≤ a.f5 ∧ a.f5 ≤ 1099511627776)) ∧ (a.f0 ≠ 5 → a.f4 = 0 ∧ a.f5 = 0) ∧ (if a.f0 = 6 then nameL a.f6.data.toList 0 = true else a.f6 = ⟨#[]⟩)) := by
  obtain ⟨f0, f1, f2, f3, f4, f5, f6⟩ := a
  unfold rightP
  simp only [Bool.and_eq_true, decide_eq_true_eq]
  by_cases c5 : f0 = 5
  · subst c5; simp [and_assoc]
  by_cases c6 : f0 = 6
  · subst c6; simp [and_assoc]
  by_cases c7 : f0 = 7
  · subst c7; simp [and_assoc]
  · simp [c5, c6, c7, and_assoc]
end Go.Proofs.YtgfigkfcmkdjdaaDoor.B
end
section
namespace Go.Proofs.YtgfigkfcmkdjdaaDoor.B
open Go.RowKit Go.Proofs.YtgfigkfcmkdjdaaDoorW.PrintWords Go.Proofs.YtgfigkfcmkdjdaaDoorW.PrintLast Go.Proofs.YtgfigkfcmkdjdaaDoorW.PrintMore
attribute [local go_sem] max2_int min2_int max_two min_two max_three min_three max_four min_four   -- for this text's walks alone
set_option linter.unusedVariables false
set_option linter.unusedSimpArgs false
def post_replyWord.f (a0 : Int) : Option (ByteArray) := if a0 = 1 then (some (⟨#[48]⟩ : ByteArray)) else (if a0 = 2 then (some (⟨#[52]⟩ : ByteArray)) else (if a0 = 3 then (some (⟨#[53]⟩ : ByteArray)) else (if a0 = 4 then (some (⟨#[56]⟩ : ByteArray)) else (if a0 = 5 then (some (⟨#[70]⟩ : ByteArray)) else (if a0 = 6 then (some (⟨#[72]⟩ : ByteArray)) else (some (⟨#[]⟩ : ByteArray)))))))
set_option maxHeartbeats 8000000 in
set_option maxRecDepth 100000 in
theorem post_replyWord.calls (a0 : Int) (r : ByteArray) (w : World) (h : post_replyWord.f a0 = some r) :
    Calls Tryd.prog 85 #[.int .i64 a0] w fun e w' => e = .returned (.string r) ∧ Drawn0 w w' := by
  have H : (if a0 = 1 then (some (⟨#[48]⟩ : ByteArray)) else (if a0 = 2 then (some (⟨#[52]⟩ : ByteArray)) else (if a0 = 3 then (some (⟨#[53]⟩ : ByteArray)) else (if a0 = 4 then (some (⟨#[56]⟩ : ByteArray)) else (if a0 = 5 then (some (⟨#[70]⟩ : ByteArray)) else (if a0 = 6 then (some (⟨#[72]⟩ : ByteArray)) else (some (⟨#[]⟩ : ByteArray)))))))) = some r := h
  clear h
  by_cases c2 : a0 = 1
  · rw [if_pos c2] at H
    have c2b0 : (a0 == 1) = true := beq_iff_eq.mpr c2
    have c2b1 : (a0 != 1) = false := bne_eq_false_iff_eq.mpr c2
    clear c2
    obtain rfl := Option.some.inj H
    go_enter Tryd.func85, Tryd.ntmps85
    go_wp2
    go_ret
    exact ⟨by first | rfl | (simp; done) | (simp [*]; done), by repeat (first | exact Drawn0.refl _ | apply Drawn0.step)⟩
  · rw [if_neg c2] at H
    have c2b0 : (a0 == 1) = false := beq_eq_false_iff_ne.mpr c2
    have c2b1 : (a0 != 1) = true := bne_iff_ne.mpr c2
    by_cases c3 : a0 = 2
    · rw [if_pos c3] at H
      have c3b0 : (a0 == 2) = true := beq_iff_eq.mpr c3
      have c3b1 : (a0 != 2) = false := bne_eq_false_iff_eq.mpr c3
      clear c3
      obtain rfl := Option.some.inj H
      go_enter Tryd.func85, Tryd.ntmps85
      go_wp2
      go_ret
      exact ⟨by first | rfl | (simp; done) | (simp [*]; done), by repeat (first | exact Drawn0.refl _ | apply Drawn0.step)⟩
    · rw [if_neg c3] at H
      have c3b0 : (a0 == 2) = false := beq_eq_false_iff_ne.mpr c3
      have c3b1 : (a0 != 2) = true := bne_iff_ne.mpr c3
      by_cases c4 : a0 = 3
      · rw [if_pos c4] at H
        have c4b0 : (a0 == 3) = true := beq_iff_eq.mpr c4
        have c4b1 : (a0 != 3) = false := bne_eq_false_iff_eq.mpr c4
        clear c4
        obtain rfl := Option.some.inj H
        go_enter Tryd.func85, Tryd.ntmps85
        go_wp2
        go_ret
        exact ⟨by first | rfl | (simp; done) | (simp [*]; done), by repeat (first | exact Drawn0.refl _ | apply Drawn0.step)⟩
      · rw [if_neg c4] at H
        have c4b0 : (a0 == 3) = false := beq_eq_false_iff_ne.mpr c4
        have c4b1 : (a0 != 3) = true := bne_iff_ne.mpr c4
        by_cases c5 : a0 = 4
        · rw [if_pos c5] at H
          have c5b0 : (a0 == 4) = true := beq_iff_eq.mpr c5
          have c5b1 : (a0 != 4) = false := bne_eq_false_iff_eq.mpr c5
          clear c5
          obtain rfl := Option.some.inj H
          go_enter Tryd.func85, Tryd.ntmps85
          go_wp2
          go_ret
          exact ⟨by first | rfl | (simp; done) | (simp [*]; done), by repeat (first | exact Drawn0.refl _ | apply Drawn0.step)⟩
        · rw [if_neg c5] at H
          have c5b0 : (a0 == 4) = false := beq_eq_false_iff_ne.mpr c5
          have c5b1 : (a0 != 4) = true := bne_iff_ne.mpr c5
          by_cases c6 : a0 = 5
          · rw [if_pos c6] at H
            have c6b0 : (a0 == 5) = true := beq_iff_eq.mpr c6
            have c6b1 : (a0 != 5) = false := bne_eq_false_iff_eq.mpr c6
            clear c6
            obtain rfl := Option.some.inj H
            go_enter Tryd.func85, Tryd.ntmps85
            go_wp2
            go_ret
            exact ⟨by first | rfl | (simp; done) | (simp [*]; done), by repeat (first | exact Drawn0.refl _ | apply Drawn0.step)⟩
          · rw [if_neg c6] at H
            have c6b0 : (a0 == 5) = false := beq_eq_false_iff_ne.mpr c6
            have c6b1 : (a0 != 5) = true := bne_iff_ne.mpr c6
            by_cases c7 : a0 = 6
            · rw [if_pos c7] at H
              have c7b0 : (a0 == 6) = true := beq_iff_eq.mpr c7
              have c7b1 : (a0 != 6) = false := bne_eq_false_iff_eq.mpr c7
              clear c7
              obtain rfl := Option.some.inj H
              go_enter Tryd.func85, Tryd.ntmps85
              go_wp2
              go_ret
              exact ⟨by first | rfl | (simp; done) | (simp [*]; done), by repeat (first | exact Drawn0.refl _ | apply Drawn0.step)⟩
            · rw [if_neg c7] at H
              have c7b0 : (a0 == 6) = false := beq_eq_false_iff_ne.mpr c7
              have c7b1 : (a0 != 6) = true := bne_iff_ne.mpr c7
              obtain rfl := Option.some.inj H
              go_enter Tryd.func85, Tryd.ntmps85
              go_wp2
              go_ret
              exact ⟨by first | rfl | (simp; done) | (simp [*]; done), by repeat (first | exact Drawn0.refl _ | apply Drawn0.step)⟩
end Go.Proofs.YtgfigkfcmkdjdaaDoor.B
end
section
namespace Go.Proofs.YtgfigkfcmkdjdaaDoor.B
open Go.RowKit Go.Proofs.YtgfigkfcmkdjdaaDoorW.PrintWords Go.Proofs.YtgfigkfcmkdjdaaDoorW.PrintLast Go.Proofs.YtgfigkfcmkdjdaaDoorW.PrintMore
attribute [local go_sem] max2_int min2_int max_two min_two max_three min_three max_four min_four   -- for this text's walks alone
set_option linter.unusedVariables false
set_option linter.unusedSimpArgs false
def repW (k : Int) : ByteArray := if k = 1 then ⟨#[48]⟩ else if k = 2 then ⟨#[52]⟩ else if k = 3 then ⟨#[53]⟩ else if k = 4 then ⟨#[56]⟩ else if k = 5 then ⟨#[70]⟩ else ⟨#[72]⟩
def repF (a : RepV) : List S78 :=
  if a.f0 = 7 then [⟨35, ⟨#[57]⟩⟩, ⟨34, digitsB a.f1⟩, ⟨11, a.f2⟩] else
  [⟨35, ⟨#[56]⟩⟩, ⟨34, digitsB a.f1⟩, ⟨11, a.f2⟩, ⟨17, a.f3⟩, ⟨150, repW a.f0⟩] ++ (if a.f0 = 5 then [⟨32, digitsB a.f4⟩, ⟨31, digitsB a.f5⟩] else []) ++ (if a.f0 = 6 then [⟨19, a.f6⟩] else [])
def encP (a : RepV) : ByteArray × Int := if rightP a = true then (⟨(allFormsL ((repF a).map pairF)).1.toArray⟩, ((allFormsL ((repF a).map pairF)).2 : Int)) else (⟨#[]⟩, 2)
end Go.Proofs.YtgfigkfcmkdjdaaDoor.B
end
