/- The functions that the law reaches, as plain Lean functions, and their contracts: texts merged. -/
import Derived.Test.YtgfigkfcmkdjdaaDoorzPostDecodes3
import Derived.Test.YtgfigkfcmkdjdaaDoorzPostDecodes0
import Derived.Test.YtgfigkfcmkdjdaaDoorzPostDecodes1
import Derived.Test.YtgfigkfcmkdjdaaDoorzPostDecodes2
import Derived.Test.YtgfigkfcmkdjdaaDoorzPostDecodes4
import Derived.Test.YtgfigkfcmkdjdaaDoorzPostDecodes5
import Derived.Test.YtgfigkfcmkdjdaaDoorzPostDecodes6
import Derived.Test.YtgfigkfcmkdjdaaDoorzPostDecodes7
import Derived.Test.YtgfigkfcmkdjdaaDoorzPostDecodes8
import Derived.Test.YtgfigkfcmkdjdaaDoorzPostDecodes9
import Derived.Test.YtgfigkfcmkdjdaaDoorzPostDecodes10
import Derived.Test.YtgfigkfcmkdjdaaDoorzPostDecodes11
import Derived.Test.YtgfigkfcmkdjdaaDoorzPostDecodes12
import Derived.Test.YtgfigkfcmkdjdaaDoorzPostDecodes13
import Derived.Test.YtgfigkfcmkdjdaaDoorzPostDecodes14
import Derived.Test.YtgfigkfcmkdjdaaDoorzPostDecodes15
import Derived.Test.YtgfigkfcmkdjdaaDoorzPostDecodes16
import Derived.Test.YtgfigkfcmkdjdaaDoorzPostDecodes17
import Derived.Test.YtgfigkfcmkdjdaaDoorzPostDecodes18
import Derived.Test.YtgfigkfcmkdjdaaDoorzPostDecodes19
import Derived.Test.YtgfigkfcmkdjdaaDoorzPostDecodes20
section
namespace Go.Proofs.YtgfigkfcmkdjdaaDoor.B
open Go.RowKit Go.Proofs.YtgfigkfcmkdjdaaDoorW.PrintWords Go.Proofs.YtgfigkfcmkdjdaaDoorW.PrintLast Go.Proofs.YtgfigkfcmkdjdaaDoorW.PrintMore
attribute [local go_sem] max2_int min2_int max_two min_two max_three min_three max_four min_four   -- for this text's walks alone
set_option linter.unusedVariables false
set_option linter.unusedSimpArgs false
structure FormPre (g : Nat) (p : PlS) (L : List S78) (F : FormS) (k : Nat) (W : World) : Prop where
  form : FormIs g p F k W
  vals : F.vals = valsOf L
  gl : g < W.heap.size
  al : p.a < W.heap.size
  vl : p.v < W.heap.size
  ol : ∀ a, p.A = some a → a.block < W.heap.size
structure TwoBox (W0 : World) (g : Nat) (p : PlS) (L : List S78) (r b : Nat) (T : TypeId) (F : FormS) (k : Nat) (rs cs : Array Value) (W : World) : Prop where
  form : FormIs g p F k W
  vals : F.vals = valsOf L
  res : W.heap[r]? = some (.cells rs T (0, 0))
  box : W.heap[b]? = some (.cells cs T (0, 0))
  tu : Turned (FormB g p) W0 W
  hr : W0.heap.size ≤ r
  hb : W0.heap.size ≤ b
  rb : r ≠ b
  gl : g < W0.heap.size
  al : p.a < W0.heap.size
  vl : p.v < W0.heap.size
  ol : ∀ a, p.A = some a → a.block < W0.heap.size
theorem Turned.far {S : Nat → Prop} {a w : World} (h : Turned S a w) {q : Addr} (hq : a.heap.size ≤ q.block) (u : Value) : Turned S a (w.setCell q u) :=
  ⟨h.os, h.tape, h.output, by rw [World.size_setCell]; exact h.size, fun k hk hs => (Below.heap_setCell _ _ _ _ (by omega)).trans (h.block k hk hs)⟩
theorem TwoBox.start {g : Nat} {p : PlS} {L : List S78} {F : FormS} {k : Nat} {W : World} (h : FormPre g p L F k W) (Z : Array Value) (T : TypeId) :
    TwoBox W g p L W.heap.size (W.heap.size + 1) T F k Z Z ((W.alloc (.cells Z T)).alloc (.cells Z T)) := by
  have hs : (W.alloc (.cells Z T)).heap.size = W.heap.size + 1 := World.size_alloc _ _
  have b1 : Below W.heap.size W ((W.alloc (.cells Z T)).alloc (.cells Z T)) := ((Below.refl _ _).alloc (Nat.le_refl _) _).alloc (by rw [hs]; omega) _
  have n2 := blk_new (W.alloc (.cells Z T)) (.cells Z T)
  rw [hs] at n2
  exact ⟨h.form.below b1, h.vals, blk_alloc (blk_new _ _) _, n2, Turned.of_below b1, Nat.le_refl _, by omega, by omega, h.gl, h.al, h.vl, h.ol⟩
section
variable {W0 : World} {g : Nat} {p : PlS} {L : List S78} {r b : Nat} {T : TypeId} {F F' : FormS} {k k' : Nat} {rs cs : Array Value} {W W' : World}
theorem TwoBox.call (h : TwoBox W0 g p L r b T F k rs cs W) (hf : FormIs g p F' k' W') (hv : F'.vals = F.vals) (ht : Turned (FormB g p) W W') : TwoBox W0 g p L r b T F' k' rs cs W' := by
  have e1 := h.hr; have e2 := h.hb; have e3 := h.gl; have e4 := h.al
  exact ⟨hf, hv.trans h.vals, (ht.block r (blk_lt h.res) (fun e => by rcases e with e | e <;> omega)).trans h.res, (ht.block b (blk_lt h.box) (fun e => by rcases e with e | e <;> omega)).trans h.box, h.tu.trans ht, h.hr, h.hb, h.rb, h.gl, h.al, h.vl, h.ol⟩
theorem TwoBox.below (h : TwoBox W0 g p L r b T F k rs cs W) (hb : Below W.heap.size W W') : TwoBox W0 g p L r b T F k rs cs W' := h.call (h.form.below hb) rfl (Turned.of_below hb)
theorem TwoBox.set (h : TwoBox W0 g p L r b T F k rs cs W) (j : Nat) (v : Value) : TwoBox W0 g p L r b T F k rs (cs.setIfInBounds j v) (W.setCell ⟨b, j, none⟩ v) := by
  have e1 := h.hr; have e2 := h.hb; have e3 := h.gl; have e4 := h.al; have e5 := h.vl
  exact ⟨h.form.turned (S := fun x => x = b) (Turned.setCell (S := fun x => x = b) (Turned.refl _ _) (p := ⟨b, j, none⟩) rfl _) (by show ¬ g = b; omega) (by show ¬ p.a = b; omega) (by show ¬ p.v = b; omega) (fun a ha => by have := h.ol a ha; show ¬ a.block = b; omega), h.vals,
    (Below.heap_setCell W ⟨b, j, none⟩ v r h.rb).trans h.res, blk_set h.box j v, h.tu.far e2 _, h.hr, h.hb, h.rb, h.gl, h.al, h.vl, h.ol⟩
theorem TwoBox.setR (h : TwoBox W0 g p L r b T F k rs cs W) (j : Nat) (v : Value) : TwoBox W0 g p L r b T F k (rs.setIfInBounds j v) cs (W.setCell ⟨r, j, none⟩ v) := by
  have e1 := h.hr; have e2 := h.hb; have e3 := h.gl; have e4 := h.al; have e5 := h.vl
  exact ⟨h.form.turned (S := fun x => x = r) (Turned.setCell (S := fun x => x = r) (Turned.refl _ _) (p := ⟨r, j, none⟩) rfl _) (by show ¬ g = r; omega) (by show ¬ p.a = r; omega) (by show ¬ p.v = r; omega) (fun a ha => by have := h.ol a ha; show ¬ a.block = r; omega), h.vals,
    blk_set h.res j v, (Below.heap_setCell W ⟨r, j, none⟩ v b (Ne.symm h.rb)).trans h.box, h.tu.far e1 _, h.hr, h.hb, h.rb, h.gl, h.al, h.vl, h.ol⟩
theorem TwoBox.name (h : TwoBox W0 g p L r b T F k rs cs W) {t : Int} {v : ByteArray} (E : askL takeName ⟨#[]⟩ F t = (v, F')) (ht : i64ok t) (hk : k ≤ 1000) (hz : ∀ y ∈ L, y.f1.size ≤ 512) :
    Calls Tryd.prog 60 #[.pointer (some ⟨g, 0, none⟩), .int .i64 t] W fun e w' => e = .returned (.string v) ∧ TwoBox W0 g p L r b T F' (k + 1) rs cs w' := by
  have h1 := form_name g p F k W h.form (by omega) (fun x s hx => by
    rw [h.vals] at hx
    obtain ⟨y, hy, _, rfl⟩ := valsOf_mem _ _ _ hx
    have := hz y hy
    omega) t ht
  have hv := askL_vals takeName ⟨#[]⟩ F t
  rw [E] at h1 hv
  exact h1.mono fun e w' hh => ⟨hh.1, h.call hh.2.1 hv hh.2.2⟩
theorem TwoBox.int (h : TwoBox W0 g p L r b T F k rs cs W) {t low high : Int} {v : Int} (E : askL (fun s => takeInt s low high) 0 F t = (v, F')) (ht : i64ok t) (hk : k ≤ 1000) (hz : ∀ y ∈ L, y.f1.size ≤ 512) :
    Calls Tryd.prog 61 #[.pointer (some ⟨g, 0, none⟩), .int .i64 t, .int .i64 low, .int .i64 high] W fun e w' => e = .returned (.int .i64 v) ∧ TwoBox W0 g p L r b T F' (k + 1) rs cs w' := by
  have h1 := form_int g p F k W h.form (by omega) (fun x s hx => by
    rw [h.vals] at hx
    obtain ⟨y, hy, _, rfl⟩ := valsOf_mem _ _ _ hx
    have := hz y hy
    omega) t low high ht h.form.alt
  have hv := askL_vals (fun s => takeInt s low high) 0 F t
  rw [E] at h1 hv
  exact h1.mono fun e w' hh => ⟨hh.1, h.call hh.2.1 hv hh.2.2⟩
theorem TwoBox.kind (h : TwoBox W0 g p L r b T F k rs cs W) (hk : k ≤ 1000) (he : F.e = 0) {s : ByteArray} (hs : (F.vals 35).getD ⟨#[]⟩ = s) :
    Calls Tryd.prog 59 #[.pointer (some ⟨g, 0, none⟩)] W fun e w' => e = .returned (.string s) ∧ TwoBox W0 g p L r b T (F.mark 35) (k + 1) rs cs w' := by
  have h1 := form_kind g p F k W h.form (by omega)
  rw [hs] at h1
  exact h1.mono fun e w' hh => ⟨hh.1, h.call (F' := F.mark 35) (hh.2.2 he).1 rfl (hh.2.2 he).2⟩
theorem form_done_q (h : FormIs g p F k W) (hl : F.order.length ≤ 1000) {t e0 : Int} (hd : doneL F = (t, e0)) :
    Calls Tryd.prog 62 #[.pointer (some ⟨g, 0, none⟩)] W fun e w' => e = .returned (.tuple #[.int .i64 t, .int .i64 e0]) ∧ Below W.heap.size W w' := by
  unfold doneL at hd
  by_cases he : F.e = 0
  · rw [if_neg (by simpa using he)] at hd
    have h1 := form_done_ok g p F k W h he (by omega)
    rw [hd] at h1
    exact h1.mono fun e w' hh => by
      obtain ⟨h2, rfl⟩ := hh
      exact ⟨h2, Below.refl _ _⟩
  · rw [if_pos he] at hd
    have h1 := form_done_e g p F k W h he
    simp only [Prod.mk.injEq] at hd
    rw [hd.1, hd.2] at h1
    exact h1.mono fun e w' hh => by
      obtain ⟨h2, q, rfl⟩ := hh
      exact ⟨h2, pw_below_drewN (Below.refl _ _) q⟩
theorem TwoBox.done (h : TwoBox W0 g p L r b T F k rs cs W) (hl : F.order.length ≤ 1000) {t e0 : Int} (hd : doneL F = (t, e0)) :
    Calls Tryd.prog 62 #[.pointer (some ⟨g, 0, none⟩)] W fun e w' => e = .returned (.tuple #[.int .i64 t, .int .i64 e0]) ∧ TwoBox W0 g p L r b T F k rs cs w' :=
  (form_done_q h.form hl hd).mono fun e w' hh => ⟨hh.1, h.below hh.2⟩
def TakeIs (g : Nat) (p : PlS) (L : List S78) (cells : Array Value) (t x : Int) (F' : FormS) (W : World) (e : Ending) (w' : World) : Prop :=
  e = .returned (.tuple #[.agg cells, .int .i64 t, .int .i64 x]) ∧ (∃ k, k ≤ 1000 ∧ FormIs g p F' k w') ∧ F'.vals = valsOf L ∧ Turned (FormB g p) W w'
theorem TwoBox.take {t x : Int} (h : TwoBox W0 g p L r b T F k rs cs W) (hk : k ≤ 1000) {cells : Array Value} : TakeIs g p L cells t x F W0 (.returned (.tuple #[.agg cells, .int .i64 t, .int .i64 x])) W := ⟨rfl, ⟨k, hk, h.form⟩, h.vals, h.tu⟩
theorem TwoBox.fill7 {a0 a1 a2 a3 a4 a5 a6 : Value} (h : TwoBox W0 g p L r b T F k #[a0, a1, a2, a3, a4, a5, a6] cs W) (v0 v1 v2 v3 v4 v5 v6 : Value) :
    TwoBox W0 g p L r b T F k #[v0, v1, v2, v3, v4, v5, v6] cs (((((((W.setCell ⟨r, 0, none⟩ v0).setCell ⟨r, 1, none⟩ v1).setCell ⟨r, 2, none⟩ v2).setCell ⟨r, 3, none⟩ v3).setCell ⟨r, 4, none⟩ v4).setCell ⟨r, 5, none⟩ v5).setCell ⟨r, 6, none⟩ v6) := by
  have h2 := ((((((h.setR 0 v0).setR 1 v1).setR 2 v2).setR 3 v3).setR 4 v4).setR 5 v5).setR 6 v6
  simp only [List.setIfInBounds_toArray, List.set_cons_zero, List.set_cons_succ] at h2
  exact h2
end
def zOrd : OrdV := ⟨0, 0, ⟨#[]⟩, ⟨#[]⟩, 0, 0, 0⟩
def ordCells (a : OrdV) : Array Value := #[.int .i64 a.f0, .int .i64 a.f1, .string a.f2, .string a.f3, .int .i64 a.f4, .int .i64 a.f5, .int .i64 a.f6]
def ordKind (s : ByteArray) : Nat := if s = ⟨#[68]⟩ then 1 else if s = ⟨#[70]⟩ then 2 else if s = ⟨#[71]⟩ then 3 else 0
def ordSchema : Nat → List AskT
  | 1 => [.int 34 1 1099511627776, .name 11, .name 55, .int 54 1 2, .int 38 1 1099511627776, .int 44 1 1099511627776]
  | 2 => [.int 34 1 1099511627776, .name 11]
  | 3 => [.int 34 1 1099511627776, .name 11, .int 38 1 1099511627776, .int 44 1 1099511627776]
  | _ => []
def ordOf : Nat → List ValT → OrdV
  | 1, [v0, v1, v2, v3, v4, v5] => ⟨1, v0.num, v1.str, v2.str, v3.num, v4.num, v5.num⟩
  | 2, [v0, v1] => ⟨2, v0.num, v1.str, ⟨#[]⟩, 0, 0, 0⟩
  | 3, [v0, v1, v2, v3] => ⟨3, v0.num, v1.str, ⟨#[]⟩, 0, v2.num, v3.num⟩
  | _, _ => zOrd
def takeO (v : ByteArray) (F : FormS) : (OrdV × Int × Int) × FormS :=
  if ordKind v = 0 then ((zOrd, 35, 120), F.mark 35) else ((ordOf (ordKind v) (asksT (ordSchema (ordKind v)) (F.mark 35)).1, 0, 0), (asksT (ordSchema (ordKind v)) (F.mark 35)).2)
theorem ordKind_le (v : ByteArray) : ordKind v ≤ 3 := by
  unfold ordKind
  by_cases c1 : v = ⟨#[68]⟩
  · rw [if_pos c1]; decide
  rw [if_neg c1]
  by_cases c2 : v = ⟨#[70]⟩
  · rw [if_pos c2]; decide
  rw [if_neg c2]
  by_cases c3 : v = ⟨#[71]⟩
  · rw [if_pos c3]; decide
  rw [if_neg c3]; decide
theorem ordWord_kind (v : ByteArray) (i : Nat) (h1 : 1 ≤ i) (h3 : i ≤ 3) : ∃ r, post_orderWord.f (i : Int) = some r ∧ (r = v ↔ ordKind v = i) := by
  rcases (show i = 1 ∨ i = 2 ∨ i = 3 by omega) with rfl | rfl | rfl
  · refine ⟨⟨#[68]⟩, rfl, ?_⟩
    by_cases e : v = ⟨#[68]⟩
    · subst e; exact ⟨fun _ => rfl, fun _ => rfl⟩
    · refine ⟨fun g => absurd g.symm e, fun g => ?_⟩
      unfold ordKind at g
      rw [if_neg e] at g
      repeat' split at g <;> first | omega | skip
  · refine ⟨⟨#[70]⟩, rfl, ?_⟩
    by_cases e : v = ⟨#[70]⟩
    · subst e; exact ⟨fun _ => rfl, fun _ => rfl⟩
    · refine ⟨fun g => absurd g.symm e, fun g => ?_⟩
      unfold ordKind at g
      repeat' split at g <;> first | omega | skip
  · refine ⟨⟨#[71]⟩, rfl, ?_⟩
    by_cases e : v = ⟨#[71]⟩
    · subst e; exact ⟨fun _ => rfl, fun _ => rfl⟩
    · refine ⟨fun g => absurd g.symm e, fun g => ?_⟩
      unfold ordKind at g
      repeat' split at g <;> first | omega | skip
set_option maxRecDepth 100000 in
set_option maxHeartbeats 8000000 in
theorem take_order_walk (g : Nat) (p : PlS) (L : List S78) (F : FormS) (v : ByteArray) (W : World) (h : FormPre g p L F 0 W) (he : F.e = 0) (hv : (F.vals 35).getD ⟨#[]⟩ = v) (hzl : ∀ y ∈ L, y.f1.size ≤ 512) :
    Calls Tryd.prog 78 #[.pointer (some ⟨g, 0, none⟩)] W (TakeIs g p L (ordCells (takeO v F).1.1) (takeO v F).1.2.1 (takeO v F).1.2.2 (takeO v F).2 W) := by
  have B0 := Aside0.mk (TwoBox.start h #[.int .i64 0, .int .i64 0, .string ⟨#[]⟩, .string ⟨#[]⟩, .int .i64 0, .int .i64 0, .int .i64 0] 41)
  have HZ := Aside0.mk hzl
  have HE0 := Aside0.mk he
  have HV := Aside0.mk hv
  obtain ⟨kd, hkd⟩ : ∃ k, ordKind v = k := ⟨_, rfl⟩
  have hk3 : kd ≤ 3 := hkd ▸ ordKind_le v
  have HWd : Aside0 (∀ i : Nat, 1 ≤ i → i ≤ 3 → ∃ r, post_orderWord.f (i : Int) = some r ∧ (r = v ↔ kd = i)) := ⟨fun i h1 h3 => by
    have := ordWord_kind v i h1 h3
    rwa [hkd] at this⟩
  have HTo : Aside0 (takeO v F = if kd = 0 then ((zOrd, 35, 120), F.mark 35) else ((ordOf kd (asksT (ordSchema kd) (F.mark 35)).1, 0, 0), (asksT (ordSchema kd) (F.mark 35)).2)) := ⟨by unfold takeO; rw [hkd]⟩
  have HKd := Aside0.mk hk3
  clear hkd h he hv hzl
  generalize takeO v F = res at *
  go_enter Tryd.func78, Tryd.ntmps78
  go_wp2_with (go_at_call 59; ((with_reducible refine (B0.out.kind (by decide) HE0.out HV.out).mono ?_)); rintro en w2 ⟨rfl, hb⟩; have B1 := Aside0.mk hb; clear hb B0)
  go_loopw [7] (fun v7 wr => ∃ i : Nat, v7 = .int .i64 (i : Int) ∧ 1 ≤ i ∧ i ≤ 4 ∧ Aside0 (TwoBox W g p L W.heap.size (W.heap.size + 1) 41 (F.mark 35) 1 #[.int .i64 0, .int .i64 0, .string ⟨#[]⟩, .string ⟨#[]⟩, .int .i64 0, .int .i64 0, .int .i64 0] #[.int .i64 (if kd < i then (kd : Int) else 0), .int .i64 0, .string ⟨#[]⟩, .string ⟨#[]⟩, .int .i64 0, .int .i64 0, .int .i64 0] wr)) (fun v7 _ => 4 - (intOf v7).toNat)
  case atStart => exact ⟨1, rfl, Nat.le_refl _, by omega, ⟨by rw [show (if kd < 1 then (kd : Int) else 0) = 0 by split <;> omega]; exact B1.out⟩⟩
  case round =>
    clear B1
    obtain ⟨i, rfl, hi1, hi5, B⟩ := hrel
    by_cases hlt : i ≤ 3
    · obtain ⟨r, hr, hiff⟩ := HWd.out i hi1 hlt
      have k1 : decide ((i : Int) ≤ 3) = true := by rw [decide_eq_true_eq]; omega
      have HWc : Aside0 (∀ W, Calls Tryd.prog 71 #[.int .i64 (i : Int)] W fun e w' => e = .returned (.string r) ∧ Drawn0 W w') := ⟨fun W => post_orderWord.calls _ r W hr⟩
      by_cases ce : kd = i
      · obtain rfl : r = v := hiff.2 ce
        have HN : Aside0 ((if kd < i + 1 then (kd : Int) else 0) = (i : Int)) := ⟨by rw [if_pos (by omega), ce]⟩
        clear hr hiff ce
        go_wp2_with (go_at_call 71; refine (HWc.out _).mono ?_; rintro en w3 ⟨rfl, hd⟩; have B2 := Aside0.mk (B.out.below hd.below); clear hd; have c0 : w3.cell? ⟨W.heap.size + 1, 0, none⟩ = some (.int .i64 (if kd < i then (kd : Int) else 0)) := blk_cell B2.out.box 0; have z0 := blk_frozen B2.out.box 0)
        refine ⟨⟨i + 1, by rw [show ((i + 1 : Nat) : Int) = (i : Int) + 1 by omega], by omega, by omega, ⟨by rw [HN.out]; exact B2.out.set 0 (.int .i64 (i : Int))⟩⟩, ?_⟩
        show 4 - ((i : Int) + 1).toNat < 4 - ((i : Int)).toNat
        omega
      · have hne : ¬ r = v := fun g => ce (hiff.1 g)
        have n1 : (r.toList == v.toList) = false := by
          rw [ByteArray.toList_eq, ByteArray.toList_eq, beq_eq_false_iff_ne]
          exact fun e => hne (ba_ext e)
        have HN : Aside0 ((if kd < i + 1 then (kd : Int) else 0) = (if kd < i then (kd : Int) else 0)) := ⟨by
          by_cases q : kd < i
          · rw [if_pos q, if_pos (by omega)]
          · rw [if_neg q, if_neg (by omega)]⟩
        clear hr hiff ce hne
        go_wp2_with (go_at_call 71; refine (HWc.out _).mono ?_; rintro en w3 ⟨rfl, hd⟩; have B2 := Aside0.mk (B.out.below hd.below); clear hd)
        refine ⟨⟨i + 1, by rw [show ((i + 1 : Nat) : Int) = (i : Int) + 1 by omega], by omega, by omega, ⟨by rw [HN.out]; exact B2.out⟩⟩, ?_⟩
        show 4 - ((i : Int) + 1).toNat < 4 - ((i : Int)).toNat
        omega
    · have k1 : decide ((i : Int) ≤ 3) = false := by rw [decide_eq_false_iff_not]; omega
      have hi : i = 4 := by omega
      subst hi
      have B3 : Aside0 (TwoBox W g p L W.heap.size (W.heap.size + 1) 41 (F.mark 35) 1 #[.int .i64 0, .int .i64 0, .string ⟨#[]⟩, .string ⟨#[]⟩, .int .i64 0, .int .i64 0, .int .i64 0] #[.int .i64 (kd : Int), .int .i64 0, .string ⟨#[]⟩, .string ⟨#[]⟩, .int .i64 0, .int .i64 0, .int .i64 0] wr) := ⟨by have := B.out; rwa [if_pos (by have := HKd.out; omega)] at this⟩
      clear B
      rcases (show kd = 0 ∨ kd = 1 ∨ kd = 2 ∨ kd = 3 by have := HKd.out; omega) with rfl | rfl | rfl | rfl
      · have hbx : wr.heap[W.heap.size + 1]? = some (.cells #[.int .i64 0, .int .i64 0, .string ⟨#[]⟩, .string ⟨#[]⟩, .int .i64 0, .int .i64 0, .int .i64 0] 41 (0, 0)) := B3.out.box
        have hc := fun i => blk_cell hbx i
        have hz := fun i => blk_frozen hbx i
        have hrx := B3.out.res
        have hrc := fun i => blk_cell hrx i
        have hrz := fun i => blk_frozen hrx i
        have B0 : Aside0 (TwoBox W g p L W.heap.size (W.heap.size + 1) 41 (F.mark 35) 1 #[.int .i64 0, .int .i64 0, .string ⟨#[]⟩, .string ⟨#[]⟩, .int .i64 0, .int .i64 0, .int .i64 0] #[.int .i64 0, .int .i64 0, .string ⟨#[]⟩, .string ⟨#[]⟩, .int .i64 0, .int .i64 0, .int .i64 0] wr) := ⟨B3.out⟩
        have HR : Aside0 (res = ((zOrd, 35, 120), F.mark 35)) := ⟨by have := HTo.out; rwa [if_pos rfl] at this⟩
        clear hbx hrx B3
        go_wp2
        have hB := B0.out.fill7 (.int .i64 0) (.int .i64 0) (.string ⟨#[]⟩) (.string ⟨#[]⟩) (.int .i64 0) (.int .i64 0) (.int .i64 0)
        rw [HR.out]
        refine bodyPost_ret (results_ctt rfl _ _ W.heap.size 41 #[.int .i64 0, .int .i64 0, .string ⟨#[]⟩, .string ⟨#[]⟩, .int .i64 0, .int .i64 0, .int .i64 0] (0, 0) _ rfl hB.res Tryd.underlying41 rfl (by kernel_rfl)) rfl ?_
        exact hB.take (by decide)
      · have hbx : wr.heap[W.heap.size + 1]? = some (.cells #[.int .i64 1, .int .i64 0, .string ⟨#[]⟩, .string ⟨#[]⟩, .int .i64 0, .int .i64 0, .int .i64 0] 41 (0, 0)) := B3.out.box
        have hc := fun i => blk_cell hbx i
        have hz := fun i => blk_frozen hbx i
        have hrx := B3.out.res
        have hrc := fun i => blk_cell hrx i
        have hrz := fun i => blk_frozen hrx i
        have B0 : Aside0 (TwoBox W g p L W.heap.size (W.heap.size + 1) 41 (F.mark 35) 1 #[.int .i64 0, .int .i64 0, .string ⟨#[]⟩, .string ⟨#[]⟩, .int .i64 0, .int .i64 0, .int .i64 0] #[.int .i64 1, .int .i64 0, .string ⟨#[]⟩, .string ⟨#[]⟩, .int .i64 0, .int .i64 0, .int .i64 0] wr) := ⟨B3.out⟩
        obtain ⟨v1, F1, E1⟩ : ∃ v F', askL (fun s => takeInt s 1 1099511627776) 0 (F.mark 35) 34 = (v, F') := ⟨_, _, rfl⟩
        obtain ⟨v2, F2, E2⟩ : ∃ v F', askL takeName ⟨#[]⟩ F1 11 = (v, F') := ⟨_, _, rfl⟩
        obtain ⟨v3, F3, E3⟩ : ∃ v F', askL takeName ⟨#[]⟩ F2 55 = (v, F') := ⟨_, _, rfl⟩
        obtain ⟨v4, F4, E4⟩ : ∃ v F', askL (fun s => takeInt s 1 2) 0 F3 54 = (v, F') := ⟨_, _, rfl⟩
        obtain ⟨v5, F5, E5⟩ : ∃ v F', askL (fun s => takeInt s 1 1099511627776) 0 F4 38 = (v, F') := ⟨_, _, rfl⟩
        obtain ⟨v6, F6, E6⟩ : ∃ v F', askL (fun s => takeInt s 1 1099511627776) 0 F5 44 = (v, F') := ⟨_, _, rfl⟩
        have ha : asksT (ordSchema 1) (F.mark 35) = ([.n v1, .s v2, .s v3, .n v4, .n v5, .n v6], F6) := by
          rw [show ordSchema 1 = [.int 34 1 1099511627776, .name 11, .name 55, .int 54 1 2, .int 38 1 1099511627776, .int 44 1 1099511627776] from rfl, asksT_int E1, asksT_name E2, asksT_name E3, asksT_int E4, asksT_int E5, asksT_int E6]; rfl
        have HR : Aside0 (res = ((⟨1, v1, v2, v3, v4, v5, v6⟩, 0, 0), F6)) := ⟨by have := HTo.out; rw [if_neg (by decide), ha] at this; exact this⟩
        have HE1 := Aside0.mk E1
        have HE2 := Aside0.mk E2
        have HE3 := Aside0.mk E3
        have HE4 := Aside0.mk E4
        have HE5 := Aside0.mk E5
        have HE6 := Aside0.mk E6
        clear ha hbx hrx B3 E1 E2 E3 E4 E5 E6
        go_wp2_with (first
          | (go_at_call 61; ((with_reducible refine (B0.out.int HE1.out (i64ok_of (by decide) (by decide)) (by decide) HZ.out).mono ?_)); rintro en w11 ⟨rfl, hb⟩; clear hc hz; have hbx : w11.heap[W.heap.size + 1]? = some (.cells #[.int .i64 1, .int .i64 0, .string ⟨#[]⟩, .string ⟨#[]⟩, .int .i64 0, .int .i64 0, .int .i64 0] 41 (0, 0)) := hb.box; have hc := fun i => blk_cell hbx i; have hz := fun i => blk_frozen hbx i; have hrx := hb.res; have hrc := fun i => blk_cell hrx i; have hrz := fun i => blk_frozen hrx i; have B1 := Aside0.mk (hb.set 1 (.int .i64 v1)); clear hbx hrx hb)
          | (go_at_call 60; ((with_reducible refine (B1.out.name HE2.out (i64ok_of (by decide) (by decide)) (by decide) HZ.out).mono ?_)); rintro en w12 ⟨rfl, hb⟩; clear hc hz; have hbx : w12.heap[W.heap.size + 1]? = some (.cells #[.int .i64 1, .int .i64 v1, .string ⟨#[]⟩, .string ⟨#[]⟩, .int .i64 0, .int .i64 0, .int .i64 0] 41 (0, 0)) := hb.box; have hc := fun i => blk_cell hbx i; have hz := fun i => blk_frozen hbx i; have hrx := hb.res; have hrc := fun i => blk_cell hrx i; have hrz := fun i => blk_frozen hrx i; have B2 := Aside0.mk (hb.set 2 (.string v2)); clear hbx hrx hb)
          | (go_at_call 60; ((with_reducible refine (B2.out.name HE3.out (i64ok_of (by decide) (by decide)) (by decide) HZ.out).mono ?_)); rintro en w13 ⟨rfl, hb⟩; clear hc hz; have hbx : w13.heap[W.heap.size + 1]? = some (.cells #[.int .i64 1, .int .i64 v1, .string v2, .string ⟨#[]⟩, .int .i64 0, .int .i64 0, .int .i64 0] 41 (0, 0)) := hb.box; have hc := fun i => blk_cell hbx i; have hz := fun i => blk_frozen hbx i; have hrx := hb.res; have hrc := fun i => blk_cell hrx i; have hrz := fun i => blk_frozen hrx i; have B3 := Aside0.mk (hb.set 3 (.string v3)); clear hbx hrx hb)
          | (go_at_call 61; ((with_reducible refine (B3.out.int HE4.out (i64ok_of (by decide) (by decide)) (by decide) HZ.out).mono ?_)); rintro en w14 ⟨rfl, hb⟩; clear hc hz; have hbx : w14.heap[W.heap.size + 1]? = some (.cells #[.int .i64 1, .int .i64 v1, .string v2, .string v3, .int .i64 0, .int .i64 0, .int .i64 0] 41 (0, 0)) := hb.box; have hc := fun i => blk_cell hbx i; have hz := fun i => blk_frozen hbx i; have hrx := hb.res; have hrc := fun i => blk_cell hrx i; have hrz := fun i => blk_frozen hrx i; have B4 := Aside0.mk (hb.set 4 (.int .i64 v4)); clear hbx hrx hb)
          | (go_at_call 61; ((with_reducible refine (B4.out.int HE5.out (i64ok_of (by decide) (by decide)) (by decide) HZ.out).mono ?_)); rintro en w15 ⟨rfl, hb⟩; clear hc hz; have hbx : w15.heap[W.heap.size + 1]? = some (.cells #[.int .i64 1, .int .i64 v1, .string v2, .string v3, .int .i64 v4, .int .i64 0, .int .i64 0] 41 (0, 0)) := hb.box; have hc := fun i => blk_cell hbx i; have hz := fun i => blk_frozen hbx i; have hrx := hb.res; have hrc := fun i => blk_cell hrx i; have hrz := fun i => blk_frozen hrx i; have B5 := Aside0.mk (hb.set 5 (.int .i64 v5)); clear hbx hrx hb)
          | (go_at_call 61; ((with_reducible refine (B5.out.int HE6.out (i64ok_of (by decide) (by decide)) (by decide) HZ.out).mono ?_)); rintro en w16 ⟨rfl, hb⟩; clear hc hz; have hbx : w16.heap[W.heap.size + 1]? = some (.cells #[.int .i64 1, .int .i64 v1, .string v2, .string v3, .int .i64 v4, .int .i64 v5, .int .i64 0] 41 (0, 0)) := hb.box; have hc := fun i => blk_cell hbx i; have hz := fun i => blk_frozen hbx i; have hrx := hb.res; have hrc := fun i => blk_cell hrx i; have hrz := fun i => blk_frozen hrx i; have B6 := Aside0.mk (hb.set 6 (.int .i64 v6)); clear hbx hrx hb))
        have hB := B6.out.fill7 (.int .i64 1) (.int .i64 v1) (.string v2) (.string v3) (.int .i64 v4) (.int .i64 v5) (.int .i64 v6)
        rw [HR.out]
        refine bodyPost_ret (results_ctt rfl _ _ W.heap.size 41 #[.int .i64 1, .int .i64 v1, .string v2, .string v3, .int .i64 v4, .int .i64 v5, .int .i64 v6] (0, 0) _ rfl hB.res Tryd.underlying41 rfl (by kernel_rfl)) rfl ?_
        exact hB.take (by decide)
      · have hbx : wr.heap[W.heap.size + 1]? = some (.cells #[.int .i64 2, .int .i64 0, .string ⟨#[]⟩, .string ⟨#[]⟩, .int .i64 0, .int .i64 0, .int .i64 0] 41 (0, 0)) := B3.out.box
        have hc := fun i => blk_cell hbx i
        have hz := fun i => blk_frozen hbx i
        have hrx := B3.out.res
        have hrc := fun i => blk_cell hrx i
        have hrz := fun i => blk_frozen hrx i
        have B0 : Aside0 (TwoBox W g p L W.heap.size (W.heap.size + 1) 41 (F.mark 35) 1 #[.int .i64 0, .int .i64 0, .string ⟨#[]⟩, .string ⟨#[]⟩, .int .i64 0, .int .i64 0, .int .i64 0] #[.int .i64 2, .int .i64 0, .string ⟨#[]⟩, .string ⟨#[]⟩, .int .i64 0, .int .i64 0, .int .i64 0] wr) := ⟨B3.out⟩
        obtain ⟨v1, F1, E1⟩ : ∃ v F', askL (fun s => takeInt s 1 1099511627776) 0 (F.mark 35) 34 = (v, F') := ⟨_, _, rfl⟩
        obtain ⟨v2, F2, E2⟩ : ∃ v F', askL takeName ⟨#[]⟩ F1 11 = (v, F') := ⟨_, _, rfl⟩
        have ha : asksT (ordSchema 2) (F.mark 35) = ([.n v1, .s v2], F2) := by
          rw [show ordSchema 2 = [.int 34 1 1099511627776, .name 11] from rfl, asksT_int E1, asksT_name E2]; rfl
        have HR : Aside0 (res = ((⟨2, v1, v2, ⟨#[]⟩, 0, 0, 0⟩, 0, 0), F2)) := ⟨by have := HTo.out; rw [if_neg (by decide), ha] at this; exact this⟩
        have HE1 := Aside0.mk E1
        have HE2 := Aside0.mk E2
        clear ha hbx hrx B3 E1 E2
        go_wp2_with (first
          | (go_at_call 61; ((with_reducible refine (B0.out.int HE1.out (i64ok_of (by decide) (by decide)) (by decide) HZ.out).mono ?_)); rintro en w11 ⟨rfl, hb⟩; clear hc hz; have hbx : w11.heap[W.heap.size + 1]? = some (.cells #[.int .i64 2, .int .i64 0, .string ⟨#[]⟩, .string ⟨#[]⟩, .int .i64 0, .int .i64 0, .int .i64 0] 41 (0, 0)) := hb.box; have hc := fun i => blk_cell hbx i; have hz := fun i => blk_frozen hbx i; have hrx := hb.res; have hrc := fun i => blk_cell hrx i; have hrz := fun i => blk_frozen hrx i; have B1 := Aside0.mk (hb.set 1 (.int .i64 v1)); clear hbx hrx hb)
          | (go_at_call 60; ((with_reducible refine (B1.out.name HE2.out (i64ok_of (by decide) (by decide)) (by decide) HZ.out).mono ?_)); rintro en w12 ⟨rfl, hb⟩; clear hc hz; have hbx : w12.heap[W.heap.size + 1]? = some (.cells #[.int .i64 2, .int .i64 v1, .string ⟨#[]⟩, .string ⟨#[]⟩, .int .i64 0, .int .i64 0, .int .i64 0] 41 (0, 0)) := hb.box; have hc := fun i => blk_cell hbx i; have hz := fun i => blk_frozen hbx i; have hrx := hb.res; have hrc := fun i => blk_cell hrx i; have hrz := fun i => blk_frozen hrx i; have B2 := Aside0.mk (hb.set 2 (.string v2)); clear hbx hrx hb))
        have hB := B2.out.fill7 (.int .i64 2) (.int .i64 v1) (.string v2) (.string ⟨#[]⟩) (.int .i64 0) (.int .i64 0) (.int .i64 0)
        rw [HR.out]
        refine bodyPost_ret (results_ctt rfl _ _ W.heap.size 41 #[.int .i64 2, .int .i64 v1, .string v2, .string ⟨#[]⟩, .int .i64 0, .int .i64 0, .int .i64 0] (0, 0) _ rfl hB.res Tryd.underlying41 rfl (by kernel_rfl)) rfl ?_
        exact hB.take (by decide)
      · have hbx : wr.heap[W.heap.size + 1]? = some (.cells #[.int .i64 3, .int .i64 0, .string ⟨#[]⟩, .string ⟨#[]⟩, .int .i64 0, .int .i64 0, .int .i64 0] 41 (0, 0)) := B3.out.box
        have hc := fun i => blk_cell hbx i
        have hz := fun i => blk_frozen hbx i
        have hrx := B3.out.res
        have hrc := fun i => blk_cell hrx i
        have hrz := fun i => blk_frozen hrx i
        have B0 : Aside0 (TwoBox W g p L W.heap.size (W.heap.size + 1) 41 (F.mark 35) 1 #[.int .i64 0, .int .i64 0, .string ⟨#[]⟩, .string ⟨#[]⟩, .int .i64 0, .int .i64 0, .int .i64 0] #[.int .i64 3, .int .i64 0, .string ⟨#[]⟩, .string ⟨#[]⟩, .int .i64 0, .int .i64 0, .int .i64 0] wr) := ⟨B3.out⟩
        obtain ⟨v1, F1, E1⟩ : ∃ v F', askL (fun s => takeInt s 1 1099511627776) 0 (F.mark 35) 34 = (v, F') := ⟨_, _, rfl⟩
        obtain ⟨v2, F2, E2⟩ : ∃ v F', askL takeName ⟨#[]⟩ F1 11 = (v, F') := ⟨_, _, rfl⟩
        obtain ⟨v3, F3, E3⟩ : ∃ v F', askL (fun s => takeInt s 1 1099511627776) 0 F2 38 = (v, F') := ⟨_, _, rfl⟩
        obtain ⟨v4, F4, E4⟩ : ∃ v F', askL (fun s => takeInt s 1 1099511627776) 0 F3 44 = (v, F') := ⟨_, _, rfl⟩
        have ha : asksT (ordSchema 3) (F.mark 35) = ([.n v1, .s v2, .n v3, .n v4], F4) := by
          rw [show ordSchema 3 = [.int 34 1 1099511627776, .name 11, .int 38 1 1099511627776, .int 44 1 1099511627776] from rfl, asksT_int E1, asksT_name E2, asksT_int E3, asksT_int E4]; rfl
        have HR : Aside0 (res = ((⟨3, v1, v2, ⟨#[]⟩, 0, v3, v4⟩, 0, 0), F4)) := ⟨by have := HTo.out; rw [if_neg (by decide), ha] at this; exact this⟩
        have HE1 := Aside0.mk E1
        have HE2 := Aside0.mk E2
        have HE3 := Aside0.mk E3
        have HE4 := Aside0.mk E4
        clear ha hbx hrx B3 E1 E2 E3 E4
        go_wp2_with (first
          | (go_at_call 61; ((with_reducible refine (B0.out.int HE1.out (i64ok_of (by decide) (by decide)) (by decide) HZ.out).mono ?_)); rintro en w11 ⟨rfl, hb⟩; clear hc hz; have hbx : w11.heap[W.heap.size + 1]? = some (.cells #[.int .i64 3, .int .i64 0, .string ⟨#[]⟩, .string ⟨#[]⟩, .int .i64 0, .int .i64 0, .int .i64 0] 41 (0, 0)) := hb.box; have hc := fun i => blk_cell hbx i; have hz := fun i => blk_frozen hbx i; have hrx := hb.res; have hrc := fun i => blk_cell hrx i; have hrz := fun i => blk_frozen hrx i; have B1 := Aside0.mk (hb.set 1 (.int .i64 v1)); clear hbx hrx hb)
          | (go_at_call 60; ((with_reducible refine (B1.out.name HE2.out (i64ok_of (by decide) (by decide)) (by decide) HZ.out).mono ?_)); rintro en w12 ⟨rfl, hb⟩; clear hc hz; have hbx : w12.heap[W.heap.size + 1]? = some (.cells #[.int .i64 3, .int .i64 v1, .string ⟨#[]⟩, .string ⟨#[]⟩, .int .i64 0, .int .i64 0, .int .i64 0] 41 (0, 0)) := hb.box; have hc := fun i => blk_cell hbx i; have hz := fun i => blk_frozen hbx i; have hrx := hb.res; have hrc := fun i => blk_cell hrx i; have hrz := fun i => blk_frozen hrx i; have B2 := Aside0.mk (hb.set 2 (.string v2)); clear hbx hrx hb)
          | (go_at_call 61; ((with_reducible refine (B2.out.int HE3.out (i64ok_of (by decide) (by decide)) (by decide) HZ.out).mono ?_)); rintro en w13 ⟨rfl, hb⟩; clear hc hz; have hbx : w13.heap[W.heap.size + 1]? = some (.cells #[.int .i64 3, .int .i64 v1, .string v2, .string ⟨#[]⟩, .int .i64 0, .int .i64 0, .int .i64 0] 41 (0, 0)) := hb.box; have hc := fun i => blk_cell hbx i; have hz := fun i => blk_frozen hbx i; have hrx := hb.res; have hrc := fun i => blk_cell hrx i; have hrz := fun i => blk_frozen hrx i; have B3 := Aside0.mk (hb.set 5 (.int .i64 v3)); clear hbx hrx hb)
          | (go_at_call 61; ((with_reducible refine (B3.out.int HE4.out (i64ok_of (by decide) (by decide)) (by decide) HZ.out).mono ?_)); rintro en w14 ⟨rfl, hb⟩; clear hc hz; have hbx : w14.heap[W.heap.size + 1]? = some (.cells #[.int .i64 3, .int .i64 v1, .string v2, .string ⟨#[]⟩, .int .i64 0, .int .i64 v3, .int .i64 0] 41 (0, 0)) := hb.box; have hc := fun i => blk_cell hbx i; have hz := fun i => blk_frozen hbx i; have hrx := hb.res; have hrc := fun i => blk_cell hrx i; have hrz := fun i => blk_frozen hrx i; have B4 := Aside0.mk (hb.set 6 (.int .i64 v4)); clear hbx hrx hb))
        have hB := B4.out.fill7 (.int .i64 3) (.int .i64 v1) (.string v2) (.string ⟨#[]⟩) (.int .i64 0) (.int .i64 v3) (.int .i64 v4)
        rw [HR.out]
        refine bodyPost_ret (results_ctt rfl _ _ W.heap.size 41 #[.int .i64 3, .int .i64 v1, .string v2, .string ⟨#[]⟩, .int .i64 0, .int .i64 v3, .int .i64 v4] (0, 0) _ rfl hB.res Tryd.underlying41 rfl (by kernel_rfl)) rfl ?_
        exact hB.take (by decide)
theorem asksT_order : ∀ (l : List AskT) (F : FormS), (asksT l F).2.order = F.order
  | [], _ => rfl
  | a :: r, F => by
    rw [asksT_cons]
    show (asksT r (askT a F).2).2.order = F.order
    rw [asksT_order r]
    cases a with
    | name t => exact askL_order _ _ _ _
    | int t lo hi => exact askL_order _ _ _ _
    | ints t tk => exact askL_order _ _ _ _
theorem FormIs.pre {g : Nat} {p : PlS} {L : List S78} {F : FormS} {k : Nat} {w : World} (h : FormIs g p F k w) (hv : F.vals = valsOf L) (hl : 0 < F.order.length) : FormPre g p L F k w := by
  refine ⟨h, hv, h.lt, h.alt, ?_, fun x hx => ?_⟩
  · obtain ⟨D, h1, _⟩ := h.vals
    exact h1.lt
  · obtain ⟨ad, hA, hc, _⟩ := h.ord 0 hl
    obtain rfl : ad = x := Option.some.inj (hA.symm.trans hx)
    have := World.block_lt_of_cell? w _ hc
    rwa [addr_block] at this
theorem blk_fill7 {W : World} {b : Nat} {T : TypeId} {a0 a1 a2 a3 a4 a5 a6 : Value} (h : W.heap[b]? = some (.cells #[a0, a1, a2, a3, a4, a5, a6] T (0, 0))) (v0 v1 v2 v3 v4 v5 v6 : Value) :
    (((((((W.setCell ⟨b, 0, none⟩ v0).setCell ⟨b, 1, none⟩ v1).setCell ⟨b, 2, none⟩ v2).setCell ⟨b, 3, none⟩ v3).setCell ⟨b, 4, none⟩ v4).setCell ⟨b, 5, none⟩ v5).setCell ⟨b, 6, none⟩ v6).heap[b]? = some (.cells #[v0, v1, v2, v3, v4, v5, v6] T (0, 0)) := by
  have h2 := (blk_set (blk_set (blk_set (blk_set (blk_set (blk_set (blk_set h 0 v0) 1 v1) 2 v2) 3 v3) 4 v4) 5 v5) 6 v6)
  simp only [List.setIfInBounds_toArray, List.set_cons_zero, List.set_cons_succ] at h2
  exact h2
theorem low_fill7 {w W : World} (hl : Below w.heap.size w W) (v0 v1 v2 v3 v4 v5 v6 : Value) : Below w.heap.size w (((((((W.setCell ⟨w.heap.size, 0, none⟩ v0).setCell ⟨w.heap.size, 1, none⟩ v1).setCell ⟨w.heap.size, 2, none⟩ v2).setCell ⟨w.heap.size, 3, none⟩ v3).setCell ⟨w.heap.size, 4, none⟩ v4).setCell ⟨w.heap.size, 5, none⟩ v5).setCell ⟨w.heap.size, 6, none⟩ v6) :=
  low_set (low_set (low_set (low_set (low_set (low_set (low_set hl _ _) _ _) _ _) _ _) _ _) _ _) _ _
theorem takeO_order (v : ByteArray) (F : FormS) : (takeO v F).2.order = F.order := by
  unfold takeO
  split
  · rfl
  · exact asksT_order _ _
def orderD (s : ByteArray) : OrdV × Int × Int :=
  match readB s with
  | (none, e) => (zOrd, 0, e)
  | (some F, _) =>
    if (takeO ((F.vals 35).getD ⟨#[]⟩) F).1.2.2 ≠ 0 then (zOrd, (takeO ((F.vals 35).getD ⟨#[]⟩) F).1.2)
    else if (doneL (takeO ((F.vals 35).getD ⟨#[]⟩) F).2).2 ≠ 0 then (zOrd, doneL (takeO ((F.vals 35).getD ⟨#[]⟩) F).2) else ((takeO ((F.vals 35).getD ⟨#[]⟩) F).1.1, 0, 0)
theorem orderD_none {s : ByteArray} {e : Int} (h : readB s = (none, e)) : orderD s = (zOrd, 0, e) := by unfold orderD; rw [h]
theorem orderD_bad {s : ByteArray} {F F' : FormS} {x : Int} {v : ByteArray} {o : OrdV} {t e : Int} (h : readB s = (some F, x)) (hv : (F.vals 35).getD ⟨#[]⟩ = v) (ht : takeO v F = ((o, t, e), F')) (he : e ≠ 0) : orderD s = (zOrd, t, e) := by
  unfold orderD; rw [h]; simp only [hv, ht]; rw [if_pos he]
theorem orderD_undone {s : ByteArray} {F F' : FormS} {x : Int} {v : ByteArray} {o : OrdV} {t0 t e : Int} (h : readB s = (some F, x)) (hv : (F.vals 35).getD ⟨#[]⟩ = v) (ht : takeO v F = ((o, t0, 0), F')) (hd : doneL F' = (t, e)) (he : e ≠ 0) : orderD s = (zOrd, t, e) := by
  unfold orderD; rw [h]; simp only [hv, ht, hd]; rw [if_neg (by simp), if_pos he]
theorem orderD_good {s : ByteArray} {F F' : FormS} {x : Int} {v : ByteArray} {o : OrdV} {t0 t : Int} (h : readB s = (some F, x)) (hv : (F.vals 35).getD ⟨#[]⟩ = v) (ht : takeO v F = ((o, t0, 0), F')) (hd : doneL F' = (t, 0)) : orderD s = (o, 0, 0) := by
  unfold orderD; rw [h]; simp only [hv, ht, hd]; rw [if_neg (by simp), if_neg (by simp)]
def OrdIs (r : OrdV × Int × Int) (w : World) (e : Ending) (w' : World) : Prop := e = .returned (.tuple #[.agg #[.int .i64 r.1.f0, .int .i64 r.1.f1, .string r.1.f2, .string r.1.f3, .int .i64 r.1.f4, .int .i64 r.1.f5, .int .i64 r.1.f6], .int .i64 r.2.1, .int .i64 r.2.2]) ∧ Below w.heap.size w w'
theorem OrdIs.mk_ {r : OrdV × Int × Int} {o : OrdV} {t x : Int} {w w' : World} (h : r = (o, t, x)) (hb : Below w.heap.size w w') : OrdIs r w (.returned (.tuple #[.agg #[.int .i64 o.f0, .int .i64 o.f1, .string o.f2, .string o.f3, .int .i64 o.f4, .int .i64 o.f5, .int .i64 o.f6], .int .i64 t, .int .i64 x])) w' := by
  subst h; exact ⟨rfl, hb⟩
set_option maxRecDepth 100000 in
set_option maxHeartbeats 8000000 in
theorem decode_order_none (s : ByteArray) (w : World) (hs : s.size ≤ 140737488351232) (e : Int) (hq : readB s = (none, e)) (he : e ≠ 0) :
    Calls Tryd.prog 77 #[.string s, .func (.func 78) #[] #[]] w (OrdIs (orderD s) w) := by
  have hs1 : (w.alloc (.cells #[.int .i64 0, .int .i64 0, .string ⟨#[]⟩, .string ⟨#[]⟩, .int .i64 0, .int .i64 0, .int .i64 0] 41)).heap.size = w.heap.size + 1 := World.size_alloc _ _
  have HR := Aside0.mk (read_walk s ((w.alloc (.cells #[.int .i64 0, .int .i64 0, .string ⟨#[]⟩, .string ⟨#[]⟩, .int .i64 0, .int .i64 0, .int .i64 0] 41)).alloc (.cells #[.int .i64 0, .int .i64 0, .string ⟨#[]⟩, .string ⟨#[]⟩, .int .i64 0, .int .i64 0, .int .i64 0] 41)) hs)
  have HD := Aside0.mk (orderD_none hq)
  rw [hq] at HR
  have t1 : (e != 0) = true := by rw [bne_iff_ne]; exact he
  have BK0 := Aside0.mk (blk_alloc (blk_new w (.cells #[.int .i64 0, .int .i64 0, .string ⟨#[]⟩, .string ⟨#[]⟩, .int .i64 0, .int .i64 0, .int .i64 0] 41)) (.cells #[.int .i64 0, .int .i64 0, .string ⟨#[]⟩, .string ⟨#[]⟩, .int .i64 0, .int .i64 0, .int .i64 0] 41))
  have BN0 : Aside0 (((w.alloc (.cells #[.int .i64 0, .int .i64 0, .string ⟨#[]⟩, .string ⟨#[]⟩, .int .i64 0, .int .i64 0, .int .i64 0] 41)).alloc (.cells #[.int .i64 0, .int .i64 0, .string ⟨#[]⟩, .string ⟨#[]⟩, .int .i64 0, .int .i64 0, .int .i64 0] 41)).heap[w.heap.size + 1]? = some (.cells #[.int .i64 0, .int .i64 0, .string ⟨#[]⟩, .string ⟨#[]⟩, .int .i64 0, .int .i64 0, .int .i64 0] 41 (0, 0))) := ⟨by have h := blk_new (w.alloc (.cells #[.int .i64 0, .int .i64 0, .string ⟨#[]⟩, .string ⟨#[]⟩, .int .i64 0, .int .i64 0, .int .i64 0] 41)) (.cells #[.int .i64 0, .int .i64 0, .string ⟨#[]⟩, .string ⟨#[]⟩, .int .i64 0, .int .i64 0, .int .i64 0] 41); rwa [hs1] at h⟩
  have HB0 : Aside0 (Below w.heap.size w ((w.alloc (.cells #[.int .i64 0, .int .i64 0, .string ⟨#[]⟩, .string ⟨#[]⟩, .int .i64 0, .int .i64 0, .int .i64 0] 41)).alloc (.cells #[.int .i64 0, .int .i64 0, .string ⟨#[]⟩, .string ⟨#[]⟩, .int .i64 0, .int .i64 0, .int .i64 0] 41))) := ⟨((Below.refl _ _).alloc (Nat.le_refl _) _).alloc (by rw [hs1]; omega) _⟩
  clear hq he hs1
  go_enter Tryd.func77, Tryd.ntmps77
  go_wp2_with (go_at_call 58; refine HR.out.mono ?_; rintro en w1 ⟨hb1, rfl⟩; have BK := Aside0.mk (blk_below BK0.out hb1); have BN := Aside0.mk (blk_below BN0.out hb1); have HB := Aside0.mk (HB0.out.trans (hb1.mono HB0.out.size)); clear hb1; have hc := fun i => blk_cell BK.out i; have hf := fun i => blk_frozen BK.out i; have hcn := fun i => blk_cell BN.out i)
  refine bodyPost_ret (results_ctt rfl _ _ w.heap.size 41 #[.int .i64 0, .int .i64 0, .string ⟨#[]⟩, .string ⟨#[]⟩, .int .i64 0, .int .i64 0, .int .i64 0] (0, 0) _ rfl (blk_fill7 BK.out _ _ _ _ _ _ _) Tryd.underlying41 rfl (by kernel_rfl)) rfl ?_
  exact OrdIs.mk_ (o := zOrd) HD.out (low_fill7 HB.out _ _ _ _ _ _ _)
set_option maxRecDepth 100000 in
set_option maxHeartbeats 8000000 in
theorem decode_order_some (s : ByteArray) (w : World) (hs : s.size ≤ 140737488351232) (F : FormS) (x : Int) (hq : readB s = (some F, x)) :
    Calls Tryd.prog 77 #[.string s, .func (.func 78) #[] #[]] w (OrdIs (orderD s) w) := by
  obtain ⟨v, hv⟩ : ∃ v, (F.vals 35).getD ⟨#[]⟩ = v := ⟨_, rfl⟩
  obtain ⟨o, t0, e0, F', hto⟩ : ∃ o t e F', takeO v F = ((o, t, e), F') := ⟨_, _, _, _, rfl⟩
  obtain ⟨td, ed, hd⟩ : ∃ t e, doneL F' = (t, e) := ⟨_, _, rfl⟩
  obtain ⟨hx, hF, h0, h35, hv35⟩ := readB_some hq
  subst hx
  have he0 : F.e = 0 := by rw [hF]; rfl
  have hvl : F.vals = valsOf (fieldsB s) := by rw [hF]; rfl
  have hor : F'.order.length ≤ 1000 := by
    have h1 : F'.order = F.order := by have := takeO_order v F; rw [hto] at this; exact this
    rw [h1, hF]
    show (tagsOf (fieldsB s)).length ≤ 1000
    unfold tagsOf
    rw [List.length_map]
    have := fieldsB_len s
    omega
  have horF : F.order.length ≤ 1000 := by
    rw [hF]
    show (tagsOf (fieldsB s)).length ≤ 1000
    unfold tagsOf
    rw [List.length_map]
    have := fieldsB_len s
    omega
  have hol : 0 < F.order.length := by
    rw [hF]
    show 0 < (tagsOf (fieldsB s)).length
    unfold tagsOf
    rw [List.length_map]
    exact h0
  have hz : ∀ y ∈ fieldsB s, y.f1.size ≤ 512 := fun y hy => (fieldsB_good s y hy).2.2
  have hs1 : (w.alloc (.cells #[.int .i64 0, .int .i64 0, .string ⟨#[]⟩, .string ⟨#[]⟩, .int .i64 0, .int .i64 0, .int .i64 0] 41)).heap.size = w.heap.size + 1 := World.size_alloc _ _
  have hs2 : ((w.alloc (.cells #[.int .i64 0, .int .i64 0, .string ⟨#[]⟩, .string ⟨#[]⟩, .int .i64 0, .int .i64 0, .int .i64 0] 41)).alloc (.cells #[.int .i64 0, .int .i64 0, .string ⟨#[]⟩, .string ⟨#[]⟩, .int .i64 0, .int .i64 0, .int .i64 0] 41)).heap.size = w.heap.size + 2 := by rw [World.size_alloc, hs1]
  have HR := Aside0.mk (read_walk s ((w.alloc (.cells #[.int .i64 0, .int .i64 0, .string ⟨#[]⟩, .string ⟨#[]⟩, .int .i64 0, .int .i64 0, .int .i64 0] 41)).alloc (.cells #[.int .i64 0, .int .i64 0, .string ⟨#[]⟩, .string ⟨#[]⟩, .int .i64 0, .int .i64 0, .int .i64 0] 41)) hs)
  rw [hq] at HR
  have HTk : Aside0 (∀ g p W, FormPre g p (fieldsB s) F 0 W → Calls Tryd.prog 78 #[.pointer (some ⟨g, 0, none⟩)] W fun e w' => e = .returned (.tuple #[.agg #[.int .i64 o.f0, .int .i64 o.f1, .string o.f2, .string o.f3, .int .i64 o.f4, .int .i64 o.f5, .int .i64 o.f6], .int .i64 t0, .int .i64 e0]) ∧ (∃ k, k ≤ 1000 ∧ FormIs g p F' k w') ∧ Turned (FormB g p) W w') := ⟨fun g p W h => by
    have h1 := take_order_walk g p (fieldsB s) F v W h he0 hv hz
    rw [hto] at h1
    exact h1.mono fun e w' hh => ⟨hh.1, hh.2.1, hh.2.2.2⟩⟩
  have HFp : Aside0 (∀ g p W, FormIs g p F 0 W → FormPre g p (fieldsB s) F 0 W) := ⟨fun g p W h => h.pre hvl hol⟩
  have BK0 := Aside0.mk (blk_alloc (blk_new w (.cells #[.int .i64 0, .int .i64 0, .string ⟨#[]⟩, .string ⟨#[]⟩, .int .i64 0, .int .i64 0, .int .i64 0] 41)) (.cells #[.int .i64 0, .int .i64 0, .string ⟨#[]⟩, .string ⟨#[]⟩, .int .i64 0, .int .i64 0, .int .i64 0] 41))
  have BN0 : Aside0 (((w.alloc (.cells #[.int .i64 0, .int .i64 0, .string ⟨#[]⟩, .string ⟨#[]⟩, .int .i64 0, .int .i64 0, .int .i64 0] 41)).alloc (.cells #[.int .i64 0, .int .i64 0, .string ⟨#[]⟩, .string ⟨#[]⟩, .int .i64 0, .int .i64 0, .int .i64 0] 41)).heap[w.heap.size + 1]? = some (.cells #[.int .i64 0, .int .i64 0, .string ⟨#[]⟩, .string ⟨#[]⟩, .int .i64 0, .int .i64 0, .int .i64 0] 41 (0, 0))) := ⟨by have h := blk_new (w.alloc (.cells #[.int .i64 0, .int .i64 0, .string ⟨#[]⟩, .string ⟨#[]⟩, .int .i64 0, .int .i64 0, .int .i64 0] 41)) (.cells #[.int .i64 0, .int .i64 0, .string ⟨#[]⟩, .string ⟨#[]⟩, .int .i64 0, .int .i64 0, .int .i64 0] 41); rwa [hs1] at h⟩
  have HB0 : Aside0 (Below w.heap.size w ((w.alloc (.cells #[.int .i64 0, .int .i64 0, .string ⟨#[]⟩, .string ⟨#[]⟩, .int .i64 0, .int .i64 0, .int .i64 0] 41)).alloc (.cells #[.int .i64 0, .int .i64 0, .string ⟨#[]⟩, .string ⟨#[]⟩, .int .i64 0, .int .i64 0, .int .i64 0] 41))) := ⟨((Below.refl _ _).alloc (Nat.le_refl _) _).alloc (by rw [hs1]; omega) _⟩
  have HDb : Aside0 (e0 ≠ 0 → orderD s = (zOrd, t0, e0)) := ⟨fun h => orderD_bad hq hv hto h⟩
  have HDu : Aside0 (e0 = 0 → ed ≠ 0 → orderD s = (zOrd, td, ed)) := ⟨fun h1 h2 => orderD_undone hq hv (by rw [hto, h1]) hd h2⟩
  have HDg : Aside0 (e0 = 0 → ed = 0 → orderD s = (o, 0, 0)) := ⟨fun h1 h2 => orderD_good hq hv (by rw [hto, h1]) (by rw [hd, h2])⟩
  have HDn := Aside0.mk hd
  have HO := Aside0.mk hor
  clear horF hq hv hto hd hF h0 h35 hv35 he0 hvl hor hol hz hs1
  generalize fieldsB s = L at *
  generalize orderD s = res at *
  by_cases ce : e0 = 0
  · have t2 : (e0 != 0) = false := by rw [ce]; rfl
    have t3 : (e0 == 0) = true := by rw [ce]; rfl
    by_cases cd : ed = 0
    · have HD := Aside0.mk (HDg.out ce cd)
      have t4 : (ed != 0) = false := by rw [cd]; rfl
      clear ce cd HDb HDu HDg
      go_enter Tryd.func77, Tryd.ntmps77
      go_wp2_with (first
        | (go_at_call 58; refine HR.out.mono ?_; rintro en w1 ⟨hb1, g, p, rfl, hf, h1, h2, h3, h4⟩; rw [hs2] at h1 h2; have HG : Aside0 (w.heap.size + 2 ≤ g ∧ w.heap.size + 2 ≤ p.a) := ⟨⟨h1, h2⟩⟩; have HP := Aside0.mk (HFp.out _ _ _ hf); have BK1 := Aside0.mk (blk_below BK0.out hb1); have BN1 := Aside0.mk (blk_below BN0.out hb1); have HB1 := Aside0.mk (HB0.out.trans (hb1.mono HB0.out.size)); clear hb1 hf h1 h2 h3 h4)
        | (go_at_call 78; (first | ((with_reducible refine (HTk.out _ _ _ HP.out).mono ?_)) | (refine (HTk.out _ _ _ HP.out).mono ?_)); rintro en w2 ⟨rfl, ⟨k, hk, hf⟩, ht⟩; have hne : ∀ r, r < w.heap.size + 2 → ¬ FormB g p r := (fun r hr e => by have := HG.out; rcases e with e | e <;> omega); have BK2 := Aside0.mk ((ht.block _ (blk_lt BK1.out) (hne _ (by omega))).trans BK1.out); have HB2 := Aside0.mk (HB1.out.trans (ht.below (B := w.heap.size) (fun j hj => by have := HG.out; rcases hj with e | e <;> omega) HB1.out.size)); have HF2 := Aside0.mk hf; have hal : Below w2.heap.size w2 (w2.alloc (.cells #[.int .i64 o.f0, .int .i64 o.f1, .string o.f2, .string o.f3, .int .i64 o.f4, .int .i64 o.f5, .int .i64 o.f6] 41)) := (Below.refl _ _).alloc (Nat.le_refl _) _; have HF3 := Aside0.mk (hf.below hal); have HB3 := Aside0.mk (HB2.out.trans (hal.mono HB2.out.size)); have BK3 := Aside0.mk (blk_below BK2.out hal); have BX := Aside0.mk (blk_new w2 (.cells #[.int .i64 o.f0, .int .i64 o.f1, .string o.f2, .string o.f3, .int .i64 o.f4, .int .i64 o.f5, .int .i64 o.f6] 41)); clear hal ht hf hne)
        | (go_at_call 62; ((with_reducible refine (form_done_q HF3.out HO.out HDn.out).mono ?_)); rintro en w3 ⟨rfl, hb⟩; have BK4 := Aside0.mk (blk_below BK3.out hb); have BX4 := Aside0.mk (blk_below BX.out hb); have HB4 := Aside0.mk (HB3.out.trans (hb.mono HB3.out.size)); have hc := fun i => blk_cell BK4.out i; have hf := fun i => blk_frozen BK4.out i; have hcx := fun i => blk_cell BX4.out i; clear hb))
      refine bodyPost_ret (results_ctt rfl _ _ w.heap.size 41 #[.int .i64 o.f0, .int .i64 o.f1, .string o.f2, .string o.f3, .int .i64 o.f4, .int .i64 o.f5, .int .i64 o.f6] (0, 0) _ rfl (blk_fill7 BK4.out _ _ _ _ _ _ _) Tryd.underlying41 rfl (by kernel_rfl)) rfl ?_
      exact OrdIs.mk_ (o := o) HD.out (low_fill7 HB4.out _ _ _ _ _ _ _)
    · have HD := Aside0.mk (HDu.out ce cd)
      have t4 : (ed != 0) = true := by rw [bne_iff_ne]; exact cd
      clear ce cd HDb HDu HDg
      go_enter Tryd.func77, Tryd.ntmps77
      go_wp2_with (first
        | (go_at_call 58; refine HR.out.mono ?_; rintro en w1 ⟨hb1, g, p, rfl, hf, h1, h2, h3, h4⟩; rw [hs2] at h1 h2; have HG : Aside0 (w.heap.size + 2 ≤ g ∧ w.heap.size + 2 ≤ p.a) := ⟨⟨h1, h2⟩⟩; have HP := Aside0.mk (HFp.out _ _ _ hf); have BK1 := Aside0.mk (blk_below BK0.out hb1); have BN1 := Aside0.mk (blk_below BN0.out hb1); have HB1 := Aside0.mk (HB0.out.trans (hb1.mono HB0.out.size)); clear hb1 hf h1 h2 h3 h4)
        | (go_at_call 78; (first | ((with_reducible refine (HTk.out _ _ _ HP.out).mono ?_)) | (refine (HTk.out _ _ _ HP.out).mono ?_)); rintro en w2 ⟨rfl, ⟨k, hk, hf⟩, ht⟩; have hne : ∀ r, r < w.heap.size + 2 → ¬ FormB g p r := (fun r hr e => by have := HG.out; rcases e with e | e <;> omega); have BK2 := Aside0.mk ((ht.block _ (blk_lt BK1.out) (hne _ (by omega))).trans BK1.out); have BN2 := Aside0.mk ((ht.block _ (blk_lt BN1.out) (hne _ (by omega))).trans BN1.out); have HB2 := Aside0.mk (HB1.out.trans (ht.below (B := w.heap.size) (fun j hj => by have := HG.out; rcases hj with e | e <;> omega) HB1.out.size)); have hal : Below w2.heap.size w2 (w2.alloc (.cells #[.int .i64 o.f0, .int .i64 o.f1, .string o.f2, .string o.f3, .int .i64 o.f4, .int .i64 o.f5, .int .i64 o.f6] 41)) := (Below.refl _ _).alloc (Nat.le_refl _) _; have HF3 := Aside0.mk (hf.below hal); have HB3 := Aside0.mk (HB2.out.trans (hal.mono HB2.out.size)); have BK3 := Aside0.mk (blk_below BK2.out hal); have BN3 := Aside0.mk (blk_below BN2.out hal); clear hal ht hf hne)
        | (go_at_call 62; ((with_reducible refine (form_done_q HF3.out HO.out HDn.out).mono ?_)); rintro en w3 ⟨rfl, hb⟩; have BK4 := Aside0.mk (blk_below BK3.out hb); have BN4 := Aside0.mk (blk_below BN3.out hb); have HB4 := Aside0.mk (HB3.out.trans (hb.mono HB3.out.size)); have hc := fun i => blk_cell BK4.out i; have hf := fun i => blk_frozen BK4.out i; have hcn := fun i => blk_cell BN4.out i; clear hb))
      refine bodyPost_ret (results_ctt rfl _ _ w.heap.size 41 #[.int .i64 0, .int .i64 0, .string ⟨#[]⟩, .string ⟨#[]⟩, .int .i64 0, .int .i64 0, .int .i64 0] (0, 0) _ rfl (blk_fill7 BK4.out _ _ _ _ _ _ _) Tryd.underlying41 rfl (by kernel_rfl)) rfl ?_
      exact OrdIs.mk_ (o := zOrd) HD.out (low_fill7 HB4.out _ _ _ _ _ _ _)
  · have t2 : (e0 != 0) = true := by rw [bne_iff_ne]; exact ce
    have t3 : (e0 == 0) = false := by rw [beq_eq_false_iff_ne]; exact ce
    have HD := Aside0.mk (HDb.out ce)
    clear ce HDb HDu HDg
    go_enter Tryd.func77, Tryd.ntmps77
    go_wp2_with (first
      | (go_at_call 58; refine HR.out.mono ?_; rintro en w1 ⟨hb1, g, p, rfl, hf, h1, h2, h3, h4⟩; rw [hs2] at h1 h2; have HG : Aside0 (w.heap.size + 2 ≤ g ∧ w.heap.size + 2 ≤ p.a) := ⟨⟨h1, h2⟩⟩; have HP := Aside0.mk (HFp.out _ _ _ hf); have BK1 := Aside0.mk (blk_below BK0.out hb1); have BN1 := Aside0.mk (blk_below BN0.out hb1); have HB1 := Aside0.mk (HB0.out.trans (hb1.mono HB0.out.size)); clear hb1 hf h1 h2 h3 h4)
      | (go_at_call 78; (first | ((with_reducible refine (HTk.out _ _ _ HP.out).mono ?_)) | (refine (HTk.out _ _ _ HP.out).mono ?_)); rintro en w2 ⟨rfl, ⟨k, hk, hf⟩, ht⟩; have hne : ∀ r, r < w.heap.size + 2 → ¬ FormB g p r := (fun r hr e => by have := HG.out; rcases e with e | e <;> omega); have BK2 := Aside0.mk ((ht.block _ (blk_lt BK1.out) (hne _ (by omega))).trans BK1.out); have BN2 := Aside0.mk ((ht.block _ (blk_lt BN1.out) (hne _ (by omega))).trans BN1.out); have HB2 := Aside0.mk (HB1.out.trans (ht.below (B := w.heap.size) (fun j hj => by have := HG.out; rcases hj with e | e <;> omega) HB1.out.size)); have hal : Below w2.heap.size w2 (w2.alloc (.cells #[.int .i64 o.f0, .int .i64 o.f1, .string o.f2, .string o.f3, .int .i64 o.f4, .int .i64 o.f5, .int .i64 o.f6] 41)) := (Below.refl _ _).alloc (Nat.le_refl _) _; have HB3 := Aside0.mk (HB2.out.trans (hal.mono HB2.out.size)); have BK3 := Aside0.mk (blk_below BK2.out hal); have BN3 := Aside0.mk (blk_below BN2.out hal); have hc := fun i => blk_cell BK3.out i; have hfz := fun i => blk_frozen BK3.out i; have hcn := fun i => blk_cell BN3.out i; clear hal ht hf hne))
    refine bodyPost_ret (results_ctt rfl _ _ w.heap.size 41 #[.int .i64 0, .int .i64 0, .string ⟨#[]⟩, .string ⟨#[]⟩, .int .i64 0, .int .i64 0, .int .i64 0] (0, 0) _ rfl (blk_fill7 BK3.out _ _ _ _ _ _ _) Tryd.underlying41 rfl (by kernel_rfl)) rfl ?_
    exact OrdIs.mk_ (o := zOrd) HD.out (low_fill7 HB3.out _ _ _ _ _ _ _)
theorem decode_order_walk (s : ByteArray) (w : World) (hs : s.size ≤ 140737488351232) : Calls Tryd.prog 77 #[.string s, .func (.func 78) #[] #[]] w (OrdIs (orderD s) w) := by
  rcases hr : readB s with ⟨F, x⟩
  cases F with
  | none =>
    refine decode_order_none s w hs x hr ?_
    intro e
    subst e
    unfold readB at hr
    split at hr
    · rename_i g; simp only [Prod.mk.injEq, true_and] at hr; omega
    split at hr
    · simp at hr
    split at hr <;> simp at hr
  | some F => exact decode_order_some s w hs F x hr
set_option maxRecDepth 100000 in
theorem DecodeOrder_walk (s : ByteArray) (w : World) (hs : s.size ≤ 140737488351232) : Calls Tryd.prog 29 #[.string s] w (OrdIs (orderD s) w) := by
  have BK0 := Aside0.mk (blk_new w (.cells #[.int .i64 0, .int .i64 0, .string ⟨#[]⟩, .string ⟨#[]⟩, .int .i64 0, .int .i64 0, .int .i64 0] 41))
  have HB0 : Aside0 (Below w.heap.size w (w.alloc (.cells #[.int .i64 0, .int .i64 0, .string ⟨#[]⟩, .string ⟨#[]⟩, .int .i64 0, .int .i64 0, .int .i64 0] 41))) := ⟨(Below.refl _ _).alloc (Nat.le_refl _) _⟩
  have HDc : Aside0 (Calls Tryd.prog 77 #[.string s, .func (.func 78) #[] #[]] (w.alloc (.cells #[.int .i64 0, .int .i64 0, .string ⟨#[]⟩, .string ⟨#[]⟩, .int .i64 0, .int .i64 0, .int .i64 0] 41)) (OrdIs (orderD s) (w.alloc (.cells #[.int .i64 0, .int .i64 0, .string ⟨#[]⟩, .string ⟨#[]⟩, .int .i64 0, .int .i64 0, .int .i64 0] 41)))) := ⟨decode_order_walk s _ hs⟩
  generalize orderD s = res at *
  obtain ⟨o, t, x⟩ := res
  go_enter Tryd.func29, Tryd.ntmps29
  go_wp2_with (go_at_call 77; ((with_reducible refine HDc.out.mono ?_)); rintro en w1 ⟨rfl, hb⟩; have BK := Aside0.mk (blk_below BK0.out hb); have HB := Aside0.mk (HB0.out.trans (hb.mono HB0.out.size)); clear hb; have hc := fun i => blk_cell BK.out i; have hf := fun i => blk_frozen BK.out i)
  refine bodyPost_ret (results_ctt rfl _ _ w.heap.size 41 #[.int .i64 o.f0, .int .i64 o.f1, .string o.f2, .string o.f3, .int .i64 o.f4, .int .i64 o.f5, .int .i64 o.f6] (0, 0) _ rfl (blk_fill7 BK.out _ _ _ _ _ _ _) Tryd.underlying41 rfl (by kernel_rfl)) rfl ?_
  exact OrdIs.mk_ (o := o) rfl (low_fill7 HB.out _ _ _ _ _ _ _)
end Go.Proofs.YtgfigkfcmkdjdaaDoor.B
end
