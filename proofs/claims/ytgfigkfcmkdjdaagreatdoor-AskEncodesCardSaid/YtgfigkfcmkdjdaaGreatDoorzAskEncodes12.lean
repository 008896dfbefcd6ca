/- The functions that the law reaches, as plain Lean functions, and their contracts: texts merged. -/
import Derived.Laws.StructEq
import Derived.Test.YtgfigkfcmkdjdaaGreatDoorzAskEncodes2
import Derived.Test.YtgfigkfcmkdjdaaGreatDoorzAskEncodes0
import Derived.Test.YtgfigkfcmkdjdaaGreatDoorzAskEncodes1
import Derived.Test.YtgfigkfcmkdjdaaGreatDoorzAskEncodes3
import Derived.Test.YtgfigkfcmkdjdaaGreatDoorzAskEncodes4
import Derived.Test.YtgfigkfcmkdjdaaGreatDoorzAskEncodes5
import Derived.Test.YtgfigkfcmkdjdaaGreatDoorzAskEncodes6
import Derived.Test.YtgfigkfcmkdjdaaGreatDoorzAskEncodes7
import Derived.Test.YtgfigkfcmkdjdaaGreatDoorzAskEncodes8
import Derived.Test.YtgfigkfcmkdjdaaGreatDoorzAskEncodes9
import Derived.Test.YtgfigkfcmkdjdaaGreatDoorzAskEncodes10
import Derived.Test.YtgfigkfcmkdjdaaGreatDoorzAskEncodes11
section
namespace Go.Proofs.YtgfigkfcmkdjdaaGreatDoor.B
open Go.RowKit Go.Proofs.YtgfigkfcmkdjdaaGreatDoorW.PrintWords Go.Proofs.YtgfigkfcmkdjdaaGreatDoorW.PrintLast Go.Proofs.YtgfigkfcmkdjdaaGreatDoorW.PrintMore
attribute [local go_sem] max2_int min2_int max_two min_two max_three min_three max_four min_four   -- for this text's walks alone
set_option linter.unusedVariables false
set_option linter.unusedSimpArgs false
section
variable {w : World} {g : Nat} {p : PlS} {L : List S74} {b : Nat} {T : TypeId} {F F' : FormS} {k k' : Nat} {cs : Array Value} {W W' : World}
theorem PrgBox.done' (h : PrgBox w g p L b T F k cs W) (hl : F.order.length ≤ 1000) {t e0 : Int} (hd : doneL F = (t, e0)) :
    Calls Tryz.prog 31 #[.pointer (some ⟨g, 0, none⟩)] W fun e w' => e = .returned (.tuple #[.int .i64 t, .int .i64 e0]) ∧ PrgBox w g p L b T F k cs w' ∧ Below W.heap.size W w' := by
  unfold doneL at hd
  by_cases he : F.e = 0
  · rw [if_neg (by simpa using he)] at hd
    have h1 := form_done_ok g p F k W h.form he (by omega)
    rw [hd] at h1
    exact h1.mono fun e w' hh => by
      obtain ⟨h2, rfl⟩ := hh
      exact ⟨h2, h, Below.refl _ _⟩
  · rw [if_pos he] at hd
    have h1 := form_done_e g p F k W h.form he
    simp only [Prod.mk.injEq] at hd
    rw [hd.1, hd.2] at h1
    exact h1.mono fun e w' hh => by
      obtain ⟨h2, q, rfl⟩ := hh
      exact ⟨h2, h.below (pw_below_drewN (Below.refl _ _) q), pw_below_drewN (Below.refl _ _) q⟩
end
def zAsk : AskV := ⟨0, ⟨#[]⟩, ⟨#[]⟩, ⟨#[]⟩, ⟨#[]⟩, 0, 0, 0, 0, 0, 0, 0, 0, []⟩
def askKind (s : ByteArray) : Nat := if s = ⟨#[68]⟩ then 1 else if s = ⟨#[70]⟩ then 2 else if s = ⟨#[71]⟩ then 3 else if s = ⟨#[85, 80]⟩ then 4 else if s = ⟨#[85, 82]⟩ then 5 else 0
def curveGo : Bool → List Int → Bool
  | b, [] => b
  | b, x :: r => if x < 0 then false else if x > 1048576 then false else if b = true then curveGo true r else curveGo (decide (x > 0)) r
def curveOk (l : List Int) : Bool := decide (1 ≤ l.length) && decide (l.length ≤ 64) && curveGo false l
def wholeA (a : AskV) : Int × Int :=
  if a.f0 = 1 then (if 1 ≤ wrap64 (a.f10 - a.f9) ∧ wrap64 (a.f10 - a.f9) ≤ 1073741824 then (if a.f8 = 2 then (if curveOk a.f13 = true then (0, 0) else (5006, 30)) else (0, 0)) else (5003, 282)) else (0, 0)
def askD (s : ByteArray) : AskV × Int × Int :=
  match readB s with
  | (none, e) => (zAsk, 0, e)
  | (some F, _) =>
    if askKind ((F.vals 35).getD ⟨#[]⟩) = 0 then (zAsk, 35, 120)
    else if (doneL (takeA (askKind ((F.vals 35).getD ⟨#[]⟩) : Nat) (F.mark 35)).2).2 ≠ 0 then (zAsk, doneL (takeA (askKind ((F.vals 35).getD ⟨#[]⟩) : Nat) (F.mark 35)).2)
    else if (wholeA (takeA (askKind ((F.vals 35).getD ⟨#[]⟩) : Nat) (F.mark 35)).1).2 ≠ 0 then (zAsk, wholeA (takeA (askKind ((F.vals 35).getD ⟨#[]⟩) : Nat) (F.mark 35)).1)
    else ((takeA (askKind ((F.vals 35).getD ⟨#[]⟩) : Nat) (F.mark 35)).1, 0, 0)
section
variable {s : ByteArray} {F F' : FormS} {x t e : Int} {v : ByteArray} {k : Nat} {a : AskV}
theorem askD_none (h : readB s = (none, e)) : askD s = (zAsk, 0, e) := by unfold askD; rw [h]
theorem askD_zero (h : readB s = (some F, x)) (hv : (F.vals 35).getD ⟨#[]⟩ = v) (hk : askKind v = 0) : askD s = (zAsk, 35, 120) := by
  unfold askD; rw [h]; simp only [hv, hk]; rw [if_pos trivial]
theorem askD_undone (h : readB s = (some F, x)) (hv : (F.vals 35).getD ⟨#[]⟩ = v) (hk : askKind v = k) (h0 : k ≠ 0) (ha : takeA (k : Nat) (F.mark 35) = (a, F')) (hd : doneL F' = (t, e)) (he : e ≠ 0) : askD s = (zAsk, t, e) := by
  unfold askD; rw [h]; simp only [hv, hk, ha, hd]; rw [if_neg h0, if_pos he]
theorem askD_broken (h : readB s = (some F, x)) (hv : (F.vals 35).getD ⟨#[]⟩ = v) (hk : askKind v = k) (h0 : k ≠ 0) (ha : takeA (k : Nat) (F.mark 35) = (a, F')) (hd : (doneL F').2 = 0) (hw : wholeA a = (t, e)) (he : e ≠ 0) : askD s = (zAsk, t, e) := by
  unfold askD; rw [h]; simp only [hv, hk, ha, hw]; rw [if_neg h0, if_neg (by rw [hd]; simp), if_pos he]
theorem askD_good (h : readB s = (some F, x)) (hv : (F.vals 35).getD ⟨#[]⟩ = v) (hk : askKind v = k) (h0 : k ≠ 0) (ha : takeA (k : Nat) (F.mark 35) = (a, F')) (hd : (doneL F').2 = 0) (hw : (wholeA a).2 = 0) : askD s = (a, 0, 0) := by
  unfold askD; rw [h]; simp only [hv, hk, ha]; rw [if_neg h0, if_neg (by rw [hd]; simp), if_neg (by rw [hw]; simp)]
end
theorem askKind_le (v : ByteArray) : askKind v ≤ 5 := by
  unfold askKind
  by_cases c1 : v = ⟨#[68]⟩
  · rw [if_pos c1]; decide
  rw [if_neg c1]
  by_cases c2 : v = ⟨#[70]⟩
  · rw [if_pos c2]; decide
  rw [if_neg c2]
  by_cases c3 : v = ⟨#[71]⟩
  · rw [if_pos c3]; decide
  rw [if_neg c3]
  by_cases c4 : v = ⟨#[85, 80]⟩
  · rw [if_pos c4]; decide
  rw [if_neg c4]
  by_cases c5 : v = ⟨#[85, 82]⟩
  · rw [if_pos c5]; decide
  rw [if_neg c5]; decide
theorem askWord_kind (v : ByteArray) (i : Nat) (h1 : 1 ≤ i) (h5 : i ≤ 5) : (askKindW (i : Int) = v ↔ askKind v = i) := by
  have hne : ∀ a b : ByteArray, a.data.toList ≠ b.data.toList → a ≠ b := fun a b h e => h (by rw [e])
  rcases (show i = 1 ∨ i = 2 ∨ i = 3 ∨ i = 4 ∨ i = 5 by omega) with rfl | rfl | rfl | rfl | rfl
  · show (⟨#[68]⟩ : ByteArray) = v ↔ askKind v = 1
    constructor
    · rintro rfl
      rfl
    · intro h
      unfold askKind at h
      by_cases c1 : v = ⟨#[68]⟩
      · rw [if_pos c1] at h; exact c1.symm
      rw [if_neg c1] at h
      by_cases c2 : v = ⟨#[70]⟩
      · rw [if_pos c2] at h; omega
      rw [if_neg c2] at h
      by_cases c3 : v = ⟨#[71]⟩
      · rw [if_pos c3] at h; omega
      rw [if_neg c3] at h
      by_cases c4 : v = ⟨#[85, 80]⟩
      · rw [if_pos c4] at h; omega
      rw [if_neg c4] at h
      by_cases c5 : v = ⟨#[85, 82]⟩
      · rw [if_pos c5] at h; omega
      rw [if_neg c5] at h; omega
  · show (⟨#[70]⟩ : ByteArray) = v ↔ askKind v = 2
    constructor
    · rintro rfl
      rfl
    · intro h
      unfold askKind at h
      by_cases c1 : v = ⟨#[68]⟩
      · rw [if_pos c1] at h; omega
      rw [if_neg c1] at h
      by_cases c2 : v = ⟨#[70]⟩
      · rw [if_pos c2] at h; exact c2.symm
      rw [if_neg c2] at h
      by_cases c3 : v = ⟨#[71]⟩
      · rw [if_pos c3] at h; omega
      rw [if_neg c3] at h
      by_cases c4 : v = ⟨#[85, 80]⟩
      · rw [if_pos c4] at h; omega
      rw [if_neg c4] at h
      by_cases c5 : v = ⟨#[85, 82]⟩
      · rw [if_pos c5] at h; omega
      rw [if_neg c5] at h; omega
  · show (⟨#[71]⟩ : ByteArray) = v ↔ askKind v = 3
    constructor
    · rintro rfl
      rfl
    · intro h
      unfold askKind at h
      by_cases c1 : v = ⟨#[68]⟩
      · rw [if_pos c1] at h; omega
      rw [if_neg c1] at h
      by_cases c2 : v = ⟨#[70]⟩
      · rw [if_pos c2] at h; omega
      rw [if_neg c2] at h
      by_cases c3 : v = ⟨#[71]⟩
      · rw [if_pos c3] at h; exact c3.symm
      rw [if_neg c3] at h
      by_cases c4 : v = ⟨#[85, 80]⟩
      · rw [if_pos c4] at h; omega
      rw [if_neg c4] at h
      by_cases c5 : v = ⟨#[85, 82]⟩
      · rw [if_pos c5] at h; omega
      rw [if_neg c5] at h; omega
  · show (⟨#[85, 80]⟩ : ByteArray) = v ↔ askKind v = 4
    constructor
    · rintro rfl
      rfl
    · intro h
      unfold askKind at h
      by_cases c1 : v = ⟨#[68]⟩
      · rw [if_pos c1] at h; omega
      rw [if_neg c1] at h
      by_cases c2 : v = ⟨#[70]⟩
      · rw [if_pos c2] at h; omega
      rw [if_neg c2] at h
      by_cases c3 : v = ⟨#[71]⟩
      · rw [if_pos c3] at h; omega
      rw [if_neg c3] at h
      by_cases c4 : v = ⟨#[85, 80]⟩
      · rw [if_pos c4] at h; exact c4.symm
      rw [if_neg c4] at h
      by_cases c5 : v = ⟨#[85, 82]⟩
      · rw [if_pos c5] at h; omega
      rw [if_neg c5] at h; omega
  · show (⟨#[85, 82]⟩ : ByteArray) = v ↔ askKind v = 5
    constructor
    · rintro rfl
      rfl
    · intro h
      unfold askKind at h
      by_cases c1 : v = ⟨#[68]⟩
      · rw [if_pos c1] at h; omega
      rw [if_neg c1] at h
      by_cases c2 : v = ⟨#[70]⟩
      · rw [if_pos c2] at h; omega
      rw [if_neg c2] at h
      by_cases c3 : v = ⟨#[71]⟩
      · rw [if_pos c3] at h; omega
      rw [if_neg c3] at h
      by_cases c4 : v = ⟨#[85, 80]⟩
      · rw [if_pos c4] at h; omega
      rw [if_neg c4] at h
      by_cases c5 : v = ⟨#[85, 82]⟩
      · rw [if_pos c5] at h; exact c5.symm
      rw [if_neg c5] at h; omega
theorem curve_loop (l : List Int) (hl : l.length ≤ 64) : ∀ (n i : Nat) (b : Bool), i + n = l.length → curve_Check.l0 (n + 1) b l (l.length : Int) (i : Int) = some (if curveGo b (l.drop i) = true then 0 else 30) := by
  intro n
  induction n with
  | zero =>
    intro i b hi
    rw [List.drop_eq_nil_of_le (by omega), curve_Check.l0, if_neg (by omega)]
    cases b <;> rfl
  | succ n ih =>
    intro i b hi
    have hlt : i < l.length := by omega
    have hr : rd l (i : Int) = l[i] := by unfold rd; rw [Int.toNat_natCast, List.getD_eq_getElem?_getD, List.getElem?_eq_getElem hlt]; rfl
    have hw : wrap64 ((i : Int) + 1) = ((i + 1 : Nat) : Int) := by rw [w64 (by omega) (by omega)]; omega
    rw [List.drop_eq_getElem_cons hlt, curve_Check.l0, if_pos (by omega), if_pos (by omega), if_pos (by omega), hr, hw, curveGo]
    generalize l[i] = x at *
    by_cases c1 : x < 0
    · rw [if_pos c1, if_pos c1]; rfl
    rw [if_neg c1, if_neg c1]
    by_cases c2 : x > 1048576
    · rw [if_pos c2, if_pos c2]; rfl
    rw [if_neg c2, if_neg c2]
    by_cases c3 : b = true
    · rw [if_pos c3, if_pos c3]; exact ih (i + 1) true (by omega)
    · rw [if_neg c3, if_neg c3]; exact ih (i + 1) _ (by omega)
theorem curve_f (l : List Int) : curve_Check.f 66 l = some (if curveOk l = true then 0 else 30) := by
  have hj : ∀ b : Bool, curve_Check.j0 66 l b = if b = true then some 30 else curve_Check.l0 65 false l (l.length : Int) 0 := fun b => by
    first | rfl | (rw [curve_Check.j0]; done) | (cases b <;> rw [curve_Check.j0] <;> rfl)
  unfold curve_Check.f curveOk
  by_cases c1 : (l.length : Int) < 1
  · rw [if_pos c1, hj, if_pos rfl, decide_eq_false (show ¬ 1 ≤ l.length by omega)]; rfl
  rw [if_neg c1, hj, decide_eq_true (show 1 ≤ l.length by omega)]
  by_cases c2 : (l.length : Int) > 64
  · rw [if_pos (decide_eq_true c2), decide_eq_false (show ¬ l.length ≤ 64 by omega)]; rfl
  rw [if_neg (by rw [decide_eq_false c2]; decide), decide_eq_true (show l.length ≤ 64 by omega)]
  have h := curve_loop l (by omega) l.length 0 false (by omega)
  rw [List.drop_zero] at h
  obtain ⟨d, hd⟩ : ∃ d, 65 = (l.length + 1) + d := ⟨64 - l.length, by omega⟩
  have hm : curve_Check.l0 65 false l (l.length : Int) 0 = some (if curveGo false l = true then 0 else 30) := by
    rw [hd]
    clear hd
    induction d with
    | zero => exact h
    | succ d ihd =>
      rw [show l.length + 1 + (d + 1) = l.length + 1 + d + 1 by omega]
      exact (curve_Check.mono_l _).2 false l (l.length : Int) 0 _ ihd
  rw [hm]
  simp
theorem whole_f (a : AskV) : ask_whole.f 66 a.f0 a.f1 a.f2 a.f3 a.f4 a.f5 a.f6 a.f7 a.f8 a.f9 a.f10 a.f11 a.f12 a.f13 = some (wholeA a) := by
  unfold ask_whole.f wholeA
  by_cases c1 : a.f0 = 1
  · rw [if_pos c1, if_pos c1]
    have hs : ask_span.f a.f9 a.f10 = some (decide (1 ≤ wrap64 (a.f10 - a.f9) ∧ wrap64 (a.f10 - a.f9) ≤ 1073741824)) := by
      unfold ask_span.f ask_within.f
      generalize wrap64 (a.f10 - a.f9) = y
      by_cases c : y ≥ 1
      · rw [if_pos c]; simp [c]
      · rw [if_neg c]; simp [c]
    rw [hs]
    simp only [Option.bind_some, decide_eq_true_eq]
    by_cases c2 : 1 ≤ wrap64 (a.f10 - a.f9) ∧ wrap64 (a.f10 - a.f9) ≤ 1073741824
    · rw [if_pos c2, if_pos c2]
      by_cases c3 : a.f8 = 2
      · rw [if_pos c3, if_pos c3, curve_f]
        simp only [Option.bind_some]
        by_cases c4 : curveOk a.f13 = true
        · rw [if_pos c4, if_pos c4, if_pos rfl]
        · rw [if_neg c4, if_neg c4, if_neg (by decide)]
      · rw [if_neg c3, if_neg c3]
    · rw [if_neg c2, if_neg c2]
  · rw [if_neg c1, if_neg c1]
theorem takeA_order (k : Int) (F : FormS) : (takeA k F).2.order = F.order := by
  unfold takeA
  split
  · show (asksT _ (asksT _ F).2).2.order = _
    rw [asksT_order, asksT_order]
  split
  · exact asksT_order _ _
  · exact asksT_order _ _
def AskIs (r : AskV × Int × Int) (w : World) (e : Ending) (w' : World) : Prop :=
  ∃ v_ : Value, e = .returned (.tuple #[.agg #[.int .i64 (r.1.f0), .string (r.1.f1), .string (r.1.f2), .string (r.1.f3), .string (r.1.f4), .int .i64 (r.1.f5), .int .i64 (r.1.f6), .int .i64 (r.1.f7), .int .i64 (r.1.f8), .int .i64 (r.1.f9), .int .i64 (r.1.f10), .int .i64 (r.1.f11), .int .i64 (r.1.f12), v_], .int .i64 r.2.1, .int .i64 r.2.2]) ∧ Kd.R (Kd.int .i64) 3 w' w.heap.size (fun _ => True) v_ r.1.f13 ∧ Below w.heap.size w w'
theorem AskIs.mk_ {r : AskV × Int × Int} {a : AskV} {t x : Int} {w w' : World} {v_ : Value} {ok : Nat → Prop} (h : r = (a, t, x)) (hR : Kd.R (Kd.int .i64) 3 w' w.heap.size ok v_ a.f13) (hb : Below w.heap.size w w') :
    AskIs r w (.returned (.tuple #[.agg #[.int .i64 (a.f0), .string (a.f1), .string (a.f2), .string (a.f3), .string (a.f4), .int .i64 (a.f5), .int .i64 (a.f6), .int .i64 (a.f7), .int .i64 (a.f8), .int .i64 (a.f9), .int .i64 (a.f10), .int .i64 (a.f11), .int .i64 (a.f12), v_], .int .i64 t, .int .i64 x])) w' := by
  subst h; exact ⟨v_, rfl, Kd.R_mono hR (fun _ _ => trivial), hb⟩
theorem blk_fill14 {W : World} {b : Nat} {T : TypeId} {a0 a1 a2 a3 a4 a5 a6 a7 a8 a9 a10 a11 a12 a13 : Value} (h : W.heap[b]? = some (.cells #[a0, a1, a2, a3, a4, a5, a6, a7, a8, a9, a10, a11, a12, a13] T (0, 0))) (v0 v1 v2 v3 v4 v5 v6 v7 v8 v9 v10 v11 v12 v13 : Value) :
    ((((((((((((((W.setCell ⟨b, 0, none⟩ v0).setCell ⟨b, 1, none⟩ v1).setCell ⟨b, 2, none⟩ v2).setCell ⟨b, 3, none⟩ v3).setCell ⟨b, 4, none⟩ v4).setCell ⟨b, 5, none⟩ v5).setCell ⟨b, 6, none⟩ v6).setCell ⟨b, 7, none⟩ v7).setCell ⟨b, 8, none⟩ v8).setCell ⟨b, 9, none⟩ v9).setCell ⟨b, 10, none⟩ v10).setCell ⟨b, 11, none⟩ v11).setCell ⟨b, 12, none⟩ v12).setCell ⟨b, 13, none⟩ v13).heap[b]? = some (.cells #[v0, v1, v2, v3, v4, v5, v6, v7, v8, v9, v10, v11, v12, v13] T (0, 0)) := by
  have h2 := (blk_set (blk_set (blk_set (blk_set (blk_set (blk_set (blk_set (blk_set (blk_set (blk_set (blk_set (blk_set (blk_set (blk_set h 0 v0) 1 v1) 2 v2) 3 v3) 4 v4) 5 v5) 6 v6) 7 v7) 8 v8) 9 v9) 10 v10) 11 v11) 12 v12) 13 v13)
  simp only [List.setIfInBounds_toArray, List.set_cons_zero, List.set_cons_succ] at h2
  exact h2
theorem low_fill14 {w W : World} (hl : Below w.heap.size w W) (v0 v1 v2 v3 v4 v5 v6 v7 v8 v9 v10 v11 v12 v13 : Value) : Below w.heap.size w ((((((((((((((W.setCell ⟨w.heap.size, 0, none⟩ v0).setCell ⟨w.heap.size, 1, none⟩ v1).setCell ⟨w.heap.size, 2, none⟩ v2).setCell ⟨w.heap.size, 3, none⟩ v3).setCell ⟨w.heap.size, 4, none⟩ v4).setCell ⟨w.heap.size, 5, none⟩ v5).setCell ⟨w.heap.size, 6, none⟩ v6).setCell ⟨w.heap.size, 7, none⟩ v7).setCell ⟨w.heap.size, 8, none⟩ v8).setCell ⟨w.heap.size, 9, none⟩ v9).setCell ⟨w.heap.size, 10, none⟩ v10).setCell ⟨w.heap.size, 11, none⟩ v11).setCell ⟨w.heap.size, 12, none⟩ v12).setCell ⟨w.heap.size, 13, none⟩ v13) :=
  low_set (low_set (low_set (low_set (low_set (low_set (low_set (low_set (low_set (low_set (low_set (low_set (low_set (low_set hl _ _) _ _) _ _) _ _) _ _) _ _) _ _) _ _) _ _) _ _) _ _) _ _) _ _) _ _
theorem R_fill14 {α : Type} {d : Kd α} {e base b : Nat} {v : Value} {xs : List α} {W : World} (h : d.R e W base (fun j => j ≠ b) v xs) (v0 v1 v2 v3 v4 v5 v6 v7 v8 v9 v10 v11 v12 v13 : Value) : d.R e ((((((((((((((W.setCell ⟨b, 0, none⟩ v0).setCell ⟨b, 1, none⟩ v1).setCell ⟨b, 2, none⟩ v2).setCell ⟨b, 3, none⟩ v3).setCell ⟨b, 4, none⟩ v4).setCell ⟨b, 5, none⟩ v5).setCell ⟨b, 6, none⟩ v6).setCell ⟨b, 7, none⟩ v7).setCell ⟨b, 8, none⟩ v8).setCell ⟨b, 9, none⟩ v9).setCell ⟨b, 10, none⟩ v10).setCell ⟨b, 11, none⟩ v11).setCell ⟨b, 12, none⟩ v12).setCell ⟨b, 13, none⟩ v13) base (fun j => j ≠ b) v xs :=
  Kd.R_far (Kd.R_far (Kd.R_far (Kd.R_far (Kd.R_far (Kd.R_far (Kd.R_far (Kd.R_far (Kd.R_far (Kd.R_far (Kd.R_far (Kd.R_far (Kd.R_far (Kd.R_far h (fun _ hk => hk) _) (fun _ hk => hk) _) (fun _ hk => hk) _) (fun _ hk => hk) _) (fun _ hk => hk) _) (fun _ hk => hk) _) (fun _ hk => hk) _) (fun _ hk => hk) _) (fun _ hk => hk) _) (fun _ hk => hk) _) (fun _ hk => hk) _) (fun _ hk => hk) _) (fun _ hk => hk) _) (fun _ hk => hk) _
set_option maxRecDepth 100000 in
set_option maxHeartbeats 8000000 in
theorem ask_dec_none (s : ByteArray) (w : World) (hs : s.size ≤ 140737488351232) (e : Int) (hq : readB s = (none, e)) (he : e ≠ 0) :
    Calls Tryz.prog 12 #[.string s] w (AskIs (askD s) w) := by
  have HR := Aside0.mk (read_walk s (w.alloc (.cells #[.int .i64 0, .string ⟨#[]⟩, .string ⟨#[]⟩, .string ⟨#[]⟩, .string ⟨#[]⟩, .int .i64 0, .int .i64 0, .int .i64 0, .int .i64 0, .int .i64 0, .int .i64 0, .int .i64 0, .int .i64 0, .slice none 0 0] 24)) hs)
  have HD := Aside0.mk (askD_none hq)
  rw [hq] at HR
  have t1 : (e != 0) = true := by rw [bne_iff_ne]; exact he
  have BK0 := Aside0.mk (blk_new w (.cells #[.int .i64 0, .string ⟨#[]⟩, .string ⟨#[]⟩, .string ⟨#[]⟩, .string ⟨#[]⟩, .int .i64 0, .int .i64 0, .int .i64 0, .int .i64 0, .int .i64 0, .int .i64 0, .int .i64 0, .int .i64 0, .slice none 0 0] 24))
  have HB0 : Aside0 (Below w.heap.size w (w.alloc (.cells #[.int .i64 0, .string ⟨#[]⟩, .string ⟨#[]⟩, .string ⟨#[]⟩, .string ⟨#[]⟩, .int .i64 0, .int .i64 0, .int .i64 0, .int .i64 0, .int .i64 0, .int .i64 0, .int .i64 0, .int .i64 0, .slice none 0 0] 24))) := ⟨(Below.refl _ _).alloc (Nat.le_refl _) _⟩
  clear hq he
  go_enter Tryz.func12, Tryz.ntmps12
  go_wp2_with (go_at_call 28; refine HR.out.mono ?_; rintro en w1 ⟨hb1, rfl⟩; have BK := Aside0.mk (blk_below BK0.out hb1); have HB := Aside0.mk (HB0.out.trans (hb1.mono HB0.out.size)); clear hb1; have hc := fun i => blk_cell BK.out i; have hf := fun i => blk_frozen BK.out i)
  refine bodyPost_ret (results_ctt rfl _ _ w.heap.size 24 #[.int .i64 0, .string ⟨#[]⟩, .string ⟨#[]⟩, .string ⟨#[]⟩, .string ⟨#[]⟩, .int .i64 0, .int .i64 0, .int .i64 0, .int .i64 0, .int .i64 0, .int .i64 0, .int .i64 0, .int .i64 0, .slice none 0 0] (0, 0) _ rfl (blk_fill14 BK.out _ _ _ _ _ _ _ _ _ _ _ _ _ _) Tryz.underlying24 rfl (by kernel_rfl)) rfl ?_
  exact AskIs.mk_ (a := zAsk) (ok := fun _ => True) HD.out (Kd.R_nil _ _ _ _ _) (low_fill14 HB.out _ _ _ _ _ _ _ _ _ _ _ _ _ _)
set_option maxRecDepth 100000 in
set_option maxHeartbeats 8000000 in
theorem ask_dec_some (s : ByteArray) (w : World) (hT_ : Aside0 (Tabs_ w)) (hs : s.size ≤ 140737488351232) (F : FormS) (x : Int) (hq : readB s = (some F, x)) (v : ByteArray) (hv : (F.vals 35).getD ⟨#[]⟩ = v) :
    Calls Tryz.prog 12 #[.string s] w (AskIs (askD s) w) := by
  obtain ⟨hx, hF, h0, h35, hv35⟩ := readB_some hq
  subst hx
  have he0 : F.e = 0 := by rw [hF]; rfl
  have hvl : F.vals = valsOf (fieldsB s) := by rw [hF]; rfl
  have hor : F.order.length ≤ 64 := by
    rw [hF]
    show (tagsOf (fieldsB s)).length ≤ 64
    unfold tagsOf
    rw [List.length_map]
    exact fieldsB_len s
  have HZ : Aside0 (∀ y ∈ fieldsB s, y.f1.size ≤ 512) := ⟨fun y hy => (fieldsB_good s y hy).2.2⟩
  have HR := Aside0.mk (read_walk s (w.alloc (.cells #[.int .i64 0, .string ⟨#[]⟩, .string ⟨#[]⟩, .string ⟨#[]⟩, .string ⟨#[]⟩, .int .i64 0, .int .i64 0, .int .i64 0, .int .i64 0, .int .i64 0, .int .i64 0, .int .i64 0, .int .i64 0, .slice none 0 0] 24)) hs)
  rw [hq] at HR
  have BK0 := Aside0.mk (blk_new w (.cells #[.int .i64 0, .string ⟨#[]⟩, .string ⟨#[]⟩, .string ⟨#[]⟩, .string ⟨#[]⟩, .int .i64 0, .int .i64 0, .int .i64 0, .int .i64 0, .int .i64 0, .int .i64 0, .int .i64 0, .int .i64 0, .slice none 0 0] 24))
  have HB0 : Aside0 (Below w.heap.size w (w.alloc (.cells #[.int .i64 0, .string ⟨#[]⟩, .string ⟨#[]⟩, .string ⟨#[]⟩, .string ⟨#[]⟩, .int .i64 0, .int .i64 0, .int .i64 0, .int .i64 0, .int .i64 0, .int .i64 0, .int .i64 0, .int .i64 0, .slice none 0 0] 24))) := ⟨(Below.refl _ _).alloc (Nat.le_refl _) _⟩
  have hws : (w.alloc (.cells #[.int .i64 0, .string ⟨#[]⟩, .string ⟨#[]⟩, .string ⟨#[]⟩, .string ⟨#[]⟩, .int .i64 0, .int .i64 0, .int .i64 0, .int .i64 0, .int .i64 0, .int .i64 0, .int .i64 0, .int .i64 0, .slice none 0 0] 24)).heap.size = w.heap.size + 1 := World.size_alloc _ _
  obtain ⟨kd, hkd⟩ : ∃ k, askKind v = k := ⟨_, rfl⟩
  have hk5 : kd ≤ 5 := hkd ▸ askKind_le v
  have HWd : Aside0 (∀ i : Nat, 1 ≤ i → i ≤ 5 → (askKindW (i : Int) = v ↔ kd = i)) := ⟨fun i h1 h5 => by
    have := askWord_kind v i h1 h5
    rwa [hkd] at this⟩
  have HD0 : Aside0 (kd = 0 → askD s = (zAsk, 35, 120)) := ⟨fun h => askD_zero hq hv (hkd.trans h)⟩
  have HDb : Aside0 (∀ a F' t e, kd ≠ 0 → takeA (kd : Nat) (F.mark 35) = (a, F') → doneL F' = (t, e) → e ≠ 0 → askD s = (zAsk, t, e)) := ⟨fun a F' t e h0 ha hd he => askD_undone hq hv hkd h0 ha hd he⟩
  have HDw : Aside0 (∀ a F' t e, kd ≠ 0 → takeA (kd : Nat) (F.mark 35) = (a, F') → (doneL F').2 = 0 → wholeA a = (t, e) → e ≠ 0 → askD s = (zAsk, t, e)) := ⟨fun a F' t e h0 ha hd hw he => askD_broken hq hv hkd h0 ha hd hw he⟩
  have HDg : Aside0 (∀ a F', kd ≠ 0 → takeA (kd : Nat) (F.mark 35) = (a, F') → (doneL F').2 = 0 → (wholeA a).2 = 0 → askD s = (a, 0, 0)) := ⟨fun a F' h0 ha hd hw => askD_good hq hv hkd h0 ha hd hw⟩
  have HKd := Aside0.mk hk5
  have HV := Aside0.mk hv
  have HE0 := Aside0.mk he0
  have HVl := Aside0.mk hvl
  have HOr := Aside0.mk hor
  clear hF hv35 h35 h0 hq hkd hv he0 hvl hor
  generalize fieldsB s = L at *
  generalize askD s = res at *
  go_enter Tryz.func12, Tryz.ntmps12
  go_wp2_with (first
    | (go_at_call 28; refine HR.out.mono ?_; rintro en w1 ⟨hb1, g, p, rfl, hf, h1, h2, h3, h4⟩; rw [hws] at h1 h2 h3 h4; have B0 : Aside0 (PrgBox w g p L w.heap.size 24 F 0 #[.int .i64 0, .string ⟨#[]⟩, .string ⟨#[]⟩, .string ⟨#[]⟩, .string ⟨#[]⟩, .int .i64 0, .int .i64 0, .int .i64 0, .int .i64 0, .int .i64 0, .int .i64 0, .int .i64 0, .int .i64 0, .slice none 0 0] w1) := ⟨⟨hf, HVl.out, blk_below BK0.out hb1, HB0.out.trans (hb1.mono HB0.out.size), Nat.le_refl _, by omega, by omega, by omega, by omega, by omega, fun a ha => by have := h4 a ha; omega⟩⟩; clear hb1 hf h1 h2 h3 h4 HR)
    | (go_at_call 29; refine (B0.out.kind (by decide) HE0.out HV.out).mono ?_; rintro en w2 ⟨rfl, hb⟩; have B1 := Aside0.mk hb; clear hb B0))
  go_loopw [7] (fun v7 wr => ∃ i : Nat, v7 = .int .i64 (i : Int) ∧ 1 ≤ i ∧ i ≤ 6 ∧ Aside0 (PrgBox w g p L w.heap.size 24 (F.mark 35) 1 #[.int .i64 (if kd < i then (kd : Int) else 0), .string ⟨#[]⟩, .string ⟨#[]⟩, .string ⟨#[]⟩, .string ⟨#[]⟩, .int .i64 0, .int .i64 0, .int .i64 0, .int .i64 0, .int .i64 0, .int .i64 0, .int .i64 0, .int .i64 0, .slice none 0 0] wr)) (fun v7 _ => 6 - (intOf v7).toNat)
  case atStart => exact ⟨1, rfl, Nat.le_refl _, by omega, ⟨by rw [show (if kd < 1 then (kd : Int) else 0) = 0 by split <;> omega]; exact B1.out⟩⟩
  case round =>
    clear B1
    obtain ⟨i, rfl, hi1, hi6, B⟩ := hrel
    by_cases hlt : i ≤ 5
    · have hiff := HWd.out i hi1 hlt
      have k1 : decide ((i : Int) ≤ 5) = true := by rw [decide_eq_true_eq]; omega
      have HWc : Aside0 (∀ W, Calls Tryz.prog 19 #[.int .i64 (i : Int)] W fun e w' => e = .returned (.string (askKindW (i : Int))) ∧ Drawn0 W w') := ⟨fun W => ask_kindOf.calls _ _ W (kindOf_f _)⟩
      generalize askKindW (i : Int) = r at *
      by_cases ce : kd = i
      · obtain rfl : r = v := hiff.2 ce
        have HN : Aside0 ((if kd < i + 1 then (kd : Int) else 0) = (i : Int)) := ⟨by rw [if_pos (by omega), ce]⟩
        clear hiff ce
        go_wp2_with (go_at_call 19; refine (HWc.out _).mono ?_; rintro en w3 ⟨rfl, hd⟩; have B2 := Aside0.mk (B.out.below hd.below); clear hd; have c0 : w3.cell? ⟨w.heap.size, 0, none⟩ = some (.int .i64 (if kd < i then (kd : Int) else 0)) := blk_cell B2.out.box 0; have z0 := blk_frozen B2.out.box 0)
        refine ⟨⟨i + 1, by rw [show ((i + 1 : Nat) : Int) = (i : Int) + 1 by omega], by omega, by omega, ⟨by rw [HN.out]; exact B2.out.set 0 (.int .i64 (i : Int))⟩⟩, ?_⟩
        show 6 - ((i : Int) + 1).toNat < 6 - ((i : Int)).toNat
        omega
      · have hne : ¬ r = v := fun g => ce (hiff.1 g)
        have n1 : (r.toList == v.toList) = false := by
          rw [ByteArray.toList_eq, ByteArray.toList_eq, beq_eq_false_iff_ne]
          exact fun e => hne (ba_ext e)
        have HN : Aside0 ((if kd < i + 1 then (kd : Int) else 0) = (if kd < i then (kd : Int) else 0)) := ⟨by
          by_cases q : kd < i
          · rw [if_pos q, if_pos (by omega)]
          · rw [if_neg q, if_neg (by omega)]⟩
        clear hiff ce hne
        go_wp2_with (go_at_call 19; refine (HWc.out _).mono ?_; rintro en w3 ⟨rfl, hd⟩; have B2 := Aside0.mk (B.out.below hd.below); clear hd)
        refine ⟨⟨i + 1, by rw [show ((i + 1 : Nat) : Int) = (i : Int) + 1 by omega], by omega, by omega, ⟨by rw [HN.out]; exact B2.out⟩⟩, ?_⟩
        show 6 - ((i : Int) + 1).toNat < 6 - ((i : Int)).toNat
        omega
    · have k1 : decide ((i : Int) ≤ 5) = false := by rw [decide_eq_false_iff_not]; omega
      have hi : i = 6 := by omega
      subst hi
      have B3 : Aside0 (PrgBox w g p L w.heap.size 24 (F.mark 35) 1 #[.int .i64 (kd : Int), .string ⟨#[]⟩, .string ⟨#[]⟩, .string ⟨#[]⟩, .string ⟨#[]⟩, .int .i64 0, .int .i64 0, .int .i64 0, .int .i64 0, .int .i64 0, .int .i64 0, .int .i64 0, .int .i64 0, .slice none 0 0] wr) := ⟨by have := B.out; rwa [if_pos (by have := HKd.out; omega)] at this⟩
      clear B
      have c0 : wr.cell? ⟨w.heap.size, 0, none⟩ = some (.int .i64 (kd : Int)) := blk_cell B3.out.box 0
      by_cases ck : kd = 0
      · have HD := Aside0.mk (HD0.out ck)
        have t1 : ((kd : Int) == 0) = true := by rw [ck]; rfl
        have hbox : wr.heap[w.heap.size]? = some (.cells #[.int .i64 (kd : Int), .string ⟨#[]⟩, .string ⟨#[]⟩, .string ⟨#[]⟩, .string ⟨#[]⟩, .int .i64 0, .int .i64 0, .int .i64 0, .int .i64 0, .int .i64 0, .int .i64 0, .int .i64 0, .int .i64 0, .slice none 0 0] 24 (0, 0)) := B3.out.box
        have hcr := fun i => blk_cell hbox i
        have hfr := fun i => blk_frozen hbox i
        have BK := Aside0.mk hbox
        have HLow := Aside0.mk B3.out.low
        clear hbox ck c0
        go_wp2
        refine bodyPost_ret (results_ctt rfl _ _ w.heap.size 24 #[.int .i64 0, .string ⟨#[]⟩, .string ⟨#[]⟩, .string ⟨#[]⟩, .string ⟨#[]⟩, .int .i64 0, .int .i64 0, .int .i64 0, .int .i64 0, .int .i64 0, .int .i64 0, .int .i64 0, .int .i64 0, .slice none 0 0] (0, 0) _ rfl (blk_fill14 BK.out _ _ _ _ _ _ _ _ _ _ _ _ _ _) Tryz.underlying24 rfl (by kernel_rfl)) rfl ?_
        exact AskIs.mk_ (a := zAsk) (ok := fun _ => True) HD.out (Kd.R_nil _ _ _ _ _) (low_fill14 HLow.out _ _ _ _ _ _ _ _ _ _ _ _ _ _)
      · have t1 : ((kd : Int) == 0) = false := by rw [beq_eq_false_iff_ne]; omega
        have HKn := Aside0.mk ck
        have HRd := Aside0.mk (ask_read_walk w hT_.out g p L w.heap.size (F.mark 35) 1 wr (kd : Int) (by decide) HZ.out B3.out)
        obtain ⟨av, F2, ha⟩ : ∃ a F', takeA (kd : Int) (F.mark 35) = (a, F') := ⟨_, _, rfl⟩
        have HOl : Aside0 (F2.order.length ≤ 1000) := ⟨by
          have h1 := takeA_order (kd : Int) (F.mark 35)
          rw [ha] at h1
          have h2 : F2.order = F.order := h1
          rw [h2]; have := HOr.out; omega⟩
        obtain ⟨td, xd, ED⟩ : ∃ t x, doneL F2 = (t, x) := ⟨_, _, rfl⟩
        obtain ⟨tw, xw, EW⟩ : ∃ t x, wholeA av = (t, x) := ⟨_, _, rfl⟩
        rw [ha] at HRd
        have HED := Aside0.mk ED
        have HWf : Aside0 (ask_whole.f 66 av.f0 av.f1 av.f2 av.f3 av.f4 av.f5 av.f6 av.f7 av.f8 av.f9 av.f10 av.f11 av.f12 av.f13 = some (tw, xw)) := ⟨by rw [← EW]; exact whole_f av⟩
        by_cases hxd : xd = 0
        · subst hxd
          by_cases hxw : xw = 0
          · subst hxw
            have HD : Aside0 (res = (av, 0, 0)) := ⟨HDg.out av F2 HKn.out ha (by rw [ED]) (by rw [EW])⟩
            clear ha ED EW ck
            go_wp2_with (first
              | (go_at_call 30; ((with_reducible refine HRd.out.mono ?_)); rintro en w5 ⟨rfl, A, c, k, hk, hb, hR⟩; have B5 := Aside0.mk hb; have HR5 := Aside0.mk hR; have HK5 := Aside0.mk hk; clear hb hR hk B3 c0 HRd)
              | (go_at_call 31; ((with_reducible refine (B5.out.done' HOl.out HED.out).mono ?_)); rintro en w6 ⟨rfl, hb, hl⟩; have hbox : w6.heap[w.heap.size]? = some (.cells #[.int .i64 (av.f0), .string (av.f1), .string (av.f2), .string (av.f3), .string (av.f4), .int .i64 (av.f5), .int .i64 (av.f6), .int .i64 (av.f7), .int .i64 (av.f8), .int .i64 (av.f9), .int .i64 (av.f10), .int .i64 (av.f11), .int .i64 (av.f12), .slice A av.f13.length c] 24 (0, 0)) := hb.box; have hc6 := fun i => blk_cell hbox i; have BK6 := Aside0.mk hbox; have HL6 := Aside0.mk hb.low; have HR6 := Aside0.mk (Kd.R_below HR5.out hl); clear hb hl hbox)
              | (go_at_call 32; ((with_reducible refine (ask_whole.calls 66 av.f0 av.f1 av.f2 av.f3 av.f4 av.f5 av.f6 av.f7 av.f8 av.f9 av.f10 av.f11 av.f12 A c av.f13 tw _ w6 (Kd.R_reads' HR6.out).2.2 (Kd.R_reads' HR6.out).2.1 HWf.out).mono ?_)); rintro en w7 ⟨rfl, hb⟩; have BK := Aside0.mk (blk_below BK6.out hb); have hc7 := fun i => blk_cell BK.out i; have hf7 := fun i => blk_frozen BK.out i; have HLow := Aside0.mk (HL6.out.trans (hb.mono HL6.out.size)); have HR9 := Aside0.mk (Kd.R_below HR6.out hb); clear hb hc6))
            refine bodyPost_ret (results_ctt rfl _ _ w.heap.size 24 #[.int .i64 (av.f0), .string (av.f1), .string (av.f2), .string (av.f3), .string (av.f4), .int .i64 (av.f5), .int .i64 (av.f6), .int .i64 (av.f7), .int .i64 (av.f8), .int .i64 (av.f9), .int .i64 (av.f10), .int .i64 (av.f11), .int .i64 (av.f12), .slice A av.f13.length c] (0, 0) _ rfl (blk_fill14 BK.out _ _ _ _ _ _ _ _ _ _ _ _ _ _) Tryz.underlying24 rfl (by kernel_rfl)) rfl ?_
            exact AskIs.mk_ (a := av) HD.out (R_fill14 HR9.out _ _ _ _ _ _ _ _ _ _ _ _ _ _) (low_fill14 HLow.out _ _ _ _ _ _ _ _ _ _ _ _ _ _)
          · have HD : Aside0 (res = (zAsk, tw, xw)) := ⟨HDw.out av F2 tw xw HKn.out ha (by rw [ED]) EW hxw⟩
            have t2 : (xw != 0) = true := by rw [bne_iff_ne]; exact hxw
            clear ha ED EW ck hxw
            go_wp2_with (first
              | (go_at_call 30; ((with_reducible refine HRd.out.mono ?_)); rintro en w5 ⟨rfl, A, c, k, hk, hb, hR⟩; have B5 := Aside0.mk hb; have HR5 := Aside0.mk hR; have HK5 := Aside0.mk hk; clear hb hR hk B3 c0 HRd)
              | (go_at_call 31; ((with_reducible refine (B5.out.done' HOl.out HED.out).mono ?_)); rintro en w6 ⟨rfl, hb, hl⟩; have hbox : w6.heap[w.heap.size]? = some (.cells #[.int .i64 (av.f0), .string (av.f1), .string (av.f2), .string (av.f3), .string (av.f4), .int .i64 (av.f5), .int .i64 (av.f6), .int .i64 (av.f7), .int .i64 (av.f8), .int .i64 (av.f9), .int .i64 (av.f10), .int .i64 (av.f11), .int .i64 (av.f12), .slice A av.f13.length c] 24 (0, 0)) := hb.box; have hc6 := fun i => blk_cell hbox i; have BK6 := Aside0.mk hbox; have HL6 := Aside0.mk hb.low; have HR6 := Aside0.mk (Kd.R_below HR5.out hl); clear hb hl hbox)
              | (go_at_call 32; ((with_reducible refine (ask_whole.calls 66 av.f0 av.f1 av.f2 av.f3 av.f4 av.f5 av.f6 av.f7 av.f8 av.f9 av.f10 av.f11 av.f12 A c av.f13 tw _ w6 (Kd.R_reads' HR6.out).2.2 (Kd.R_reads' HR6.out).2.1 HWf.out).mono ?_)); rintro en w7 ⟨rfl, hb⟩; have BK := Aside0.mk (blk_below BK6.out hb); have hc7 := fun i => blk_cell BK.out i; have hf7 := fun i => blk_frozen BK.out i; have HLow := Aside0.mk (HL6.out.trans (hb.mono HL6.out.size)); have HR9 := Aside0.mk (Kd.R_below HR6.out hb); clear hb hc6))
            refine bodyPost_ret (results_ctt rfl _ _ w.heap.size 24 #[.int .i64 0, .string ⟨#[]⟩, .string ⟨#[]⟩, .string ⟨#[]⟩, .string ⟨#[]⟩, .int .i64 0, .int .i64 0, .int .i64 0, .int .i64 0, .int .i64 0, .int .i64 0, .int .i64 0, .int .i64 0, .slice none 0 0] (0, 0) _ rfl (blk_fill14 BK.out _ _ _ _ _ _ _ _ _ _ _ _ _ _) Tryz.underlying24 rfl (by kernel_rfl)) rfl ?_
            exact AskIs.mk_ (a := zAsk) (ok := fun _ => True) HD.out (Kd.R_nil _ _ _ _ _) (low_fill14 HLow.out _ _ _ _ _ _ _ _ _ _ _ _ _ _)
        · have HD : Aside0 (res = (zAsk, td, xd)) := ⟨HDb.out av F2 td xd HKn.out ha ED hxd⟩
          have t2 : (xd != 0) = true := by rw [bne_iff_ne]; exact hxd
          have t3 : (xd == 0) = false := by rw [beq_eq_false_iff_ne]; exact hxd
          clear ha ED EW ck hxd
          go_wp2_with (first
            | (go_at_call 30; ((with_reducible refine HRd.out.mono ?_)); rintro en w5 ⟨rfl, A, c, k, hk, hb, hR⟩; have B5 := Aside0.mk hb; have HR5 := Aside0.mk hR; have HK5 := Aside0.mk hk; clear hb hR hk B3 c0 HRd)
            | (go_at_call 31; ((with_reducible refine (B5.out.done' HOl.out HED.out).mono ?_)); rintro en w6 ⟨rfl, hb, hl⟩; have hbox : w6.heap[w.heap.size]? = some (.cells #[.int .i64 (av.f0), .string (av.f1), .string (av.f2), .string (av.f3), .string (av.f4), .int .i64 (av.f5), .int .i64 (av.f6), .int .i64 (av.f7), .int .i64 (av.f8), .int .i64 (av.f9), .int .i64 (av.f10), .int .i64 (av.f11), .int .i64 (av.f12), .slice A av.f13.length c] 24 (0, 0)) := hb.box; have hc6 := fun i => blk_cell hbox i; have hf6 := fun i => blk_frozen hbox i; have BK := Aside0.mk hbox; have HLow := Aside0.mk hb.low; clear hb hl hbox))
          refine bodyPost_ret (results_ctt rfl _ _ w.heap.size 24 #[.int .i64 0, .string ⟨#[]⟩, .string ⟨#[]⟩, .string ⟨#[]⟩, .string ⟨#[]⟩, .int .i64 0, .int .i64 0, .int .i64 0, .int .i64 0, .int .i64 0, .int .i64 0, .int .i64 0, .int .i64 0, .slice none 0 0] (0, 0) _ rfl (blk_fill14 BK.out _ _ _ _ _ _ _ _ _ _ _ _ _ _) Tryz.underlying24 rfl (by kernel_rfl)) rfl ?_
          exact AskIs.mk_ (a := zAsk) (ok := fun _ => True) HD.out (Kd.R_nil _ _ _ _ _) (low_fill14 HLow.out _ _ _ _ _ _ _ _ _ _ _ _ _ _)
theorem ask_Decode_walk (s : ByteArray) (w : World) (hT_ : Aside0 (Tabs_ w)) (hs : s.size ≤ 140737488351232) :
    Calls Tryz.prog 12 #[.string s] w (AskIs (askD s) w) := by
  rcases hr : readB s with ⟨F, x⟩
  cases F with
  | none => exact ask_dec_none s w hs x hr (readB_none_ne hr)
  | some F => exact ask_dec_some s w hT_ hs F x hr _ rfl
def flatA (r : AskV × Int × Int) : Int × ByteArray × ByteArray × ByteArray × ByteArray × Int × Int × Int × Int × Int × Int × Int × Int × List Int × Int × Int := (r.1.f0, r.1.f1, r.1.f2, r.1.f3, r.1.f4, r.1.f5, r.1.f6, r.1.f7, r.1.f8, r.1.f9, r.1.f10, r.1.f11, r.1.f12, r.1.f13, r.2.1, r.2.2)
def ask_Decode.f (a0 : ByteArray) : Option (Int × ByteArray × ByteArray × ByteArray × ByteArray × Int × Int × Int × Int × Int × Int × Int × Int × List Int × Int × Int) := if a0.size ≤ 140737488351232 then some (flatA (askD a0)) else none
theorem ask_Decode.calls (a0 : ByteArray) (r1 : Int) (r2 r3 r4 r5 : ByteArray) (r6 r7 r8 r9 r10 r11 r12 r13 : Int) (r14 : List Int) (r15 r16 : Int) (w : World) (hT_ : Aside0 (Tabs_ w)) (h : ask_Decode.f a0 = some (r1, r2, r3, r4, r5, r6, r7, r8, r9, r10, r11, r12, r13, r14, r15, r16)) :
    Calls Tryz.prog 12 #[.string a0] w fun e w' => ∃ v13_ : Value, e = .returned (.tuple #[.agg #[.int .i64 r1, .string r2, .string r3, .string r4, .string r5, .int .i64 r6, .int .i64 r7, .int .i64 r8, .int .i64 r9, .int .i64 r10, .int .i64 r11, .int .i64 r12, .int .i64 r13, v13_], .int .i64 r15, .int .i64 r16]) ∧ Kd.R (Kd.int .i64) 3 w' w.heap.size (fun _ => True) v13_ r14 ∧ Below w.heap.size w w' := by
  unfold ask_Decode.f at h
  by_cases c : a0.size ≤ 140737488351232
  · rw [if_pos c] at h
    have hw := ask_Decode_walk a0 w hT_ c
    unfold flatA at h
    simp only [Option.some.injEq, Prod.mk.injEq] at h
    obtain ⟨rfl, rfl, rfl, rfl, rfl, rfl, rfl, rfl, rfl, rfl, rfl, rfl, rfl, rfl, rfl, rfl⟩ := h
    exact hw
  · rw [if_neg c] at h; cases h
end Go.Proofs.YtgfigkfcmkdjdaaGreatDoor.B
end
