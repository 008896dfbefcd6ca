/- The functions that the law reaches, as plain Lean functions, and their contracts: texts merged. -/
import Derived.Laws.StructEq
import Derived.Test.YtgfigkfcmkdjdaaDoorzPostOrders3
import Derived.Test.YtgfigkfcmkdjdaaDoorzPostOrders0
import Derived.Test.YtgfigkfcmkdjdaaDoorzPostOrders1
import Derived.Test.YtgfigkfcmkdjdaaDoorzPostOrders2
import Derived.Test.YtgfigkfcmkdjdaaDoorzPostOrders4
import Derived.Test.YtgfigkfcmkdjdaaDoorzPostOrders5
import Derived.Test.YtgfigkfcmkdjdaaDoorzPostOrders7
import Derived.Test.YtgfigkfcmkdjdaaDoorzPostOrders8
import Derived.Test.YtgfigkfcmkdjdaaDoorzPostOrders9
section
namespace Go.Proofs.YtgfigkfcmkdjdaaDoor.B
open Go.RowKit Go.Proofs.YtgfigkfcmkdjdaaDoorW.PrintWords Go.Proofs.YtgfigkfcmkdjdaaDoorW.PrintLast Go.Proofs.YtgfigkfcmkdjdaaDoorW.PrintMore
attribute [local go_sem] max2_int min2_int max_two min_two max_three min_three max_four min_four   -- for this text's walks alone
set_option linter.unusedVariables false
set_option linter.unusedSimpArgs false
theorem nameL_runes (m : Nat) : ∀ (l : List UInt8) (n : Nat), l.length ≤ m → n ≤ 20 → nameL l n = (decide (0 < n + (runesL l).length ∧ n + (runesL l).length ≤ 20) && (runesL l).all mayN) := by
  induction m with
  | zero =>
    intro l n h hn
    rw [List.eq_nil_of_length_eq_zero (show l.length = 0 by omega), runesL_nil, nameL_nil]
    simp; omega
  | succ m ih =>
    intro l n h hn
    by_cases hl : l = []
    · rw [hl, runesL_nil, nameL_nil]; simp; omega
    · have hp := List.length_pos_iff.2 hl
      have hw := dec_width l
      rw [runesL_cons l hl, List.length_cons, List.all_cons]
      by_cases c20 : 20 ≤ n
      · rw [nameL_full l hl n c20, decide_eq_false (by omega)]; rfl
      · cases hm : mayN (dec l).1 with
        | false => rw [nameL_bad l hl n hm]; simp
        | true =>
          rw [nameL_go l hl n (by omega) hm, ih _ (n + 1) (by rw [List.length_drop]; omega) (by omega), Bool.true_and]
          congr 1
          rw [decide_eq_decide]; omega
theorem nameL_all (s : ByteArray) : nameL s.data.toList 0 = (decide (0 < (runesL s.data.toList).length ∧ (runesL s.data.toList).length ≤ 20) && (runesL s.data.toList).all mayN) := by
  have := nameL_runes _ s.data.toList 0 (Nat.le_refl _) (by omega)
  simpa using this
theorem runesL_small (n : Nat) : ∀ l : List UInt8, l.length ≤ n → ∀ r ∈ runesL l, r ≤ 2147483647 := by
  induction n with
  | zero => intro l h r hr; rw [List.eq_nil_of_length_eq_zero (show l.length = 0 by omega), runesL_nil] at hr; simp at hr
  | succ n ih =>
    intro l h r hr
    by_cases hl : l = []
    · rw [hl, runesL_nil] at hr; simp at hr
    · have hp := List.length_pos_iff.2 hl
      have hw := dec_width l
      rw [runesL_cons l hl] at hr
      rcases List.mem_cons.1 hr with rfl | hr
      · have := dec_rune l; omega
      · exact ih _ (by rw [List.length_drop]; omega) r hr
set_option maxRecDepth 100000 in
set_option maxHeartbeats 2000000 in
theorem ref_Valid_walk (s : ByteArray) (w : World) (hs : s.size ≤ 70368744177664) :
    Calls Tryd.prog 57 #[.string s] w (NameIs (nameL s.data.toList 0) w) := by
  rw [nameL_all]
  obtain ⟨cap, C, hcv, hcap, hCs, hC⟩ := runes_conv (P := Tryd.prog) w 9 146 21 s Tryd.underlying9 Tryd.underlying146 Tryd.underlying21 hs
  have hsm := runesL_small _ s.data.toList (Nat.le_refl _)
  generalize runesL s.data.toList = R at *
  have HC := Aside0.mk hC
  have HSm := Aside0.mk hsm
  clear hC hsm
  have HB2 : Aside0 (Below w.heap.size w (w.drew.alloc (.cells C 21))) := ⟨(Below.refl _ _).drew.alloc (Nat.le_refl _) _⟩
  have HCs := Aside0.mk hCs
  clear hCs
  generalize hv : (decide (0 < R.length ∧ R.length ≤ 20) && R.all mayN) = V
  have HV0 := Aside0.mk hv
  clear hv
  by_cases c1 : R.length < 1
  · have HV : Aside0 (false = V) := ⟨by rw [← HV0.out, decide_eq_false (by omega)]; rfl⟩
    have t1 : decide ((R.length : Int) < 1) = true := by rw [decide_eq_true_eq]; omega
    have t2 : decide (R.length < 1) = true := by rw [decide_eq_true_eq]; omega
    clear c1
    go_enter Tryd.func57, Tryd.ntmps57
    go_wp2
    go_ret
    exact NameIs.mk_ HV.out HB2.out
  have t1 : decide ((R.length : Int) < 1) = false := by rw [decide_eq_false_iff_not]; omega
  have t2 : decide (R.length < 1) = false := by rw [decide_eq_false_iff_not]; omega
  by_cases c2 : 20 < R.length
  · have HV : Aside0 (false = V) := ⟨by rw [← HV0.out, decide_eq_false (by omega)]; rfl⟩
    have t3 : decide ((20 : Int) < (R.length : Int)) = true := by rw [decide_eq_true_eq]; omega
    have t4 : decide (20 < R.length) = true := by rw [decide_eq_true_eq]; omega
    clear c1 c2
    go_enter Tryd.func57, Tryd.ntmps57
    go_wp2
    go_ret
    exact NameIs.mk_ HV.out HB2.out
  have t3 : decide ((20 : Int) < (R.length : Int)) = false := by rw [decide_eq_false_iff_not]; omega
  have t4 : decide (20 < R.length) = false := by rw [decide_eq_false_iff_not]; omega
  have HV : Aside0 (R.all mayN = V) := ⟨by rw [← HV0.out, decide_eq_true (by omega)]; rfl⟩
  have hR20 : R.length ≤ 20 := by omega
  clear c1 c2
  go_enter Tryd.func57, Tryd.ntmps57
  go_wp2
  go_loop [4] (fun v4 => ∃ i : Nat, v4 = .int .i64 (i : Int) ∧ i ≤ R.length ∧ Aside0 ((R.drop i).all mayN = R.all mayN)) (fun v4 => R.length - (intOf v4).toNat)
  case atStart => exact ⟨0, rfl, Nat.zero_le _, ⟨rfl⟩⟩
  case round =>
    obtain ⟨i, rfl, hi, HA⟩ := hrel
    by_cases hlt : i < R.length
    · have k1 : decide ((i : Int) < (R.length : Int)) = true := by rw [decide_eq_true_eq]; omega
      have k2 : (0 : Int) ≤ (i : Int) ∧ (i : Int) < (R.length : Int) := by omega
      have hti : ((i : Int)).toNat = i := Int.toNat_natCast i
      have hci := HC.out i hlt
      rw [show R.getD i 0 = R[i] by rw [List.getD_eq_getElem?_getD, List.getElem?_eq_getElem hlt]; rfl] at hci
      have hsmi := HSm.out _ (List.getElem_mem hlt)
      rw [List.drop_eq_getElem_cons hlt, List.all_cons] at HA
      generalize R[i] = r at *
      have fin : mayN r = false → Aside0 (false = R.all mayN) := fun e => ⟨by have := HA.out; rw [e] at this; exact this⟩
      by_cases c33 : r < 33
      · have HF := fin (by unfold mayN; simp; omega)
        have q1 : decide ((r : Int) < 33) = true := by rw [decide_eq_true_eq]; omega
        have q2 : decide (r < 33) = true := by rw [decide_eq_true_eq]; omega
        clear HA c33 fin
        go_wp2
        go_ret
        exact NameIs.mk_ (HF.out.trans HV.out) HB2.out
      have q1 : decide ((r : Int) < 33) = false := by rw [decide_eq_false_iff_not]; omega
      have q2 : decide (r < 33) = false := by rw [decide_eq_false_iff_not]; omega
      by_cases c127 : r = 127
      · have HF := fin (by rw [c127]; decide)
        subst c127
        clear HA fin
        go_wp2
        go_ret
        exact NameIs.mk_ (HF.out.trans HV.out) HB2.out
      by_cases c61 : r = 61
      · have HF := fin (by rw [c61]; decide)
        subst c61
        clear HA fin
        go_wp2
        go_ret
        exact NameIs.mk_ (HF.out.trans HV.out) HB2.out
      by_cases c65 : r = 65533
      · have HF := fin (by rw [c65]; decide)
        subst c65
        clear HA fin
        go_wp2
        go_ret
        exact NameIs.mk_ (HF.out.trans HV.out) HB2.out
      have HN : Aside0 ((R.drop (i + 1)).all mayN = R.all mayN) := ⟨by have := HA.out; rw [(mayN_eq r).2 ⟨by omega, c127, c61, c65⟩, Bool.true_and] at this; exact this⟩
      have q3 : ((r : Int) == 127) = false := by rw [beq_eq_false_iff_ne]; omega
      have q4 : ((r : Int) == 61) = false := by rw [beq_eq_false_iff_ne]; omega
      have q5 : ((r : Int) == 65533) = false := by rw [beq_eq_false_iff_ne]; omega
      clear HA fin c33 c127 c61 c65
      go_wp2
      go_round
      case rel => exact ⟨i + 1, by rw [show ((i + 1 : Nat) : Int) = (i : Int) + 1 by omega], by omega, HN⟩
      case measure => simp [intOf]; omega
    · have k1 : decide ((i : Int) < (R.length : Int)) = false := by rw [decide_eq_false_iff_not]; omega
      have HF : Aside0 (true = R.all mayN) := ⟨by have := HA.out; rw [List.drop_eq_nil_of_le (by omega)] at this; exact this⟩
      clear HA
      go_wp2
      go_ret
      exact NameIs.mk_ (HF.out.trans HV.out) HB2.out
def spigotref04_Valid.f (a0 : ByteArray) : Option Bool := if a0.size ≤ 70368744177664 then some (nameL a0.data.toList 0) else none
theorem spigotref04_Valid.calls (a0 : ByteArray) (r : Bool) (w : World) (h : spigotref04_Valid.f a0 = some r) :
    Calls Tryd.prog 57 #[.string a0] w fun e w' => e = .returned (.bool r) ∧ Below w.heap.size w w' := by
  unfold spigotref04_Valid.f at h
  by_cases c : a0.size ≤ 70368744177664
  · rw [if_pos c] at h
    obtain rfl := Option.some.inj h
    exact ref_Valid_walk a0 w c
  · rw [if_neg c] at h; cases h
end Go.Proofs.YtgfigkfcmkdjdaaDoor.B
end
section
namespace Go.Proofs.YtgfigkfcmkdjdaaDoor.B
open Go.RowKit Go.Proofs.YtgfigkfcmkdjdaaDoorW.PrintWords Go.Proofs.YtgfigkfcmkdjdaaDoorW.PrintLast Go.Proofs.YtgfigkfcmkdjdaaDoorW.PrintMore
attribute [local go_sem] max2_int min2_int max_two min_two max_three min_three max_four min_four   -- for this text's walks alone
set_option linter.unusedVariables false
set_option linter.unusedSimpArgs false
theorem Turned.of_grown' {S : Nat → Prop} {w w' : World} {row : Option Nat} (h : w.grownBy w' row) (hb : ∀ b, row = some b → S b) : Turned S w w' :=
  ⟨h.os, h.tape, h.output, h.size, fun k hk hs => h.block k hk (fun e => hs (hb k e.symm))⟩
section
variable {X : Nat → Prop} {g : Nat} {A : Option Addr} {c : Nat} {L : List S78} {F : FormS} {k : Nat} {w w' : World}
end
def doneL (F : FormS) : Int × Int := if F.e ≠ 0 then (F.tag, F.e) else spareL F.asked F.order
end Go.Proofs.YtgfigkfcmkdjdaaDoor.B
end
section
namespace Go.Proofs.YtgfigkfcmkdjdaaDoor.B
open Go.RowKit Go.Proofs.YtgfigkfcmkdjdaaDoorW.PrintWords Go.Proofs.YtgfigkfcmkdjdaaDoorW.PrintLast Go.Proofs.YtgfigkfcmkdjdaaDoorW.PrintMore
attribute [local go_sem] max2_int min2_int max_two min_two max_three min_three max_four min_four   -- for this text's walks alone
set_option linter.unusedVariables false
set_option linter.unusedSimpArgs false
inductive AskT where
  | name (t : Int)
  | int (t low high : Int)
  | ints (t : Int) (take : ByteArray → List Int × Int)
inductive ValT where
  | s (x : ByteArray)
  | n (x : Int)
  | l (x : List Int)
def ValT.str : ValT → ByteArray
  | .s x => x
  | _ => ⟨#[]⟩
def ValT.num : ValT → Int
  | .n x => x
  | _ => 0
def ValT.nums : ValT → List Int
  | .l x => x
  | _ => []
def askT : AskT → FormS → ValT × FormS
  | .name t, F => (.s (askL takeName ⟨#[]⟩ F t).1, (askL takeName ⟨#[]⟩ F t).2)
  | .int t low high, F => (.n (askL (fun s => takeInt s low high) 0 F t).1, (askL (fun s => takeInt s low high) 0 F t).2)
  | .ints t take, F => (.l (askL take [] F t).1, (askL take [] F t).2)
def asksT : List AskT → FormS → List ValT × FormS
  | [], F => ([], F)
  | a :: r, F => ((askT a F).1 :: (asksT r (askT a F).2).1, (asksT r (askT a F).2).2)
theorem asksT_cons (a : AskT) (r : List AskT) (F : FormS) : asksT (a :: r) F = ((askT a F).1 :: (asksT r (askT a F).2).1, (asksT r (askT a F).2).2) := rfl
theorem askT_name (t : Int) (F : FormS) : askT (.name t) F = (.s (askL takeName ⟨#[]⟩ F t).1, (askL takeName ⟨#[]⟩ F t).2) := rfl
theorem askT_int (t low high : Int) (F : FormS) : askT (.int t low high) F = (.n (askL (fun s => takeInt s low high) 0 F t).1, (askL (fun s => takeInt s low high) 0 F t).2) := rfl
theorem asksT_name {t : Int} {r : List AskT} {F F' : FormS} {v : ByteArray} (h : askL takeName ⟨#[]⟩ F t = (v, F')) : asksT (.name t :: r) F = (.s v :: (asksT r F').1, (asksT r F').2) := by rw [asksT_cons, askT_name, h]
theorem asksT_int {t low high : Int} {r : List AskT} {F F' : FormS} {v : Int} (h : askL (fun s => takeInt s low high) 0 F t = (v, F')) : asksT (.int t low high :: r) F = (.n v :: (asksT r F').1, (asksT r F').2) := by rw [asksT_cons, askT_int, h]
section
variable {w : World} {X : Nat → Prop} {g : Nat} {A : Option Addr} {c : Nat} {L : List S78} {b0 b : Nat} {T : TypeId} {Z : Array Value} {F F' : FormS} {k k' : Nat} {cs : Array Value} {W W' : World}
end
end Go.Proofs.YtgfigkfcmkdjdaaDoor.B
end
section
namespace Go.Proofs.YtgfigkfcmkdjdaaDoor.B
open Go.RowKit Go.Proofs.YtgfigkfcmkdjdaaDoorW.PrintWords Go.Proofs.YtgfigkfcmkdjdaaDoorW.PrintLast Go.Proofs.YtgfigkfcmkdjdaaDoorW.PrintMore
attribute [local go_sem] max2_int min2_int max_two min_two max_three min_three max_four min_four   -- for this text's walks alone
set_option linter.unusedVariables false
set_option linter.unusedSimpArgs false
structure TellV where
  f0 : Int
  f1 : ByteArray
  f2 : ByteArray
  f3 : Int
  f4 : Int
  f5 : Int
  f6 : Int
  f7 : Int
  f8 : Int
  f9 : Int
theorem low_set {w W : World} (h : Below w.heap.size w W) (i : Nat) (u : Value) : Below w.heap.size w (W.setCell ⟨w.heap.size, i, none⟩ u) := h.setCell (Nat.le_refl _) u
theorem readB_some {s : ByteArray} {F : FormS} {e : Int} (h : readB s = (some F, e)) : e = 0 ∧ F = formOf (fieldsB s) ∧ ∃ h0 : 0 < (fieldsB s).length, (fieldsB s)[0].f0 = 35 ∧ F.vals 35 = some (fieldsB s)[0].f1 := by
  unfold readB at h
  split at h
  · simp at h
  split at h
  · simp at h
  rename_i _ h2
  split at h
  · simp at h
  simp only [Prod.mk.injEq, Option.some.injEq] at h
  obtain ⟨rfl, rfl⟩ := h
  have h0 : 0 < (fieldsB s).length := by
    rcases Nat.eq_zero_or_pos (fieldsB s).length with g | g
    · exact absurd (.inl g) h2
    · exact g
  have h35 : (fieldsB s)[0].f0 = 35 := by
    have hr1 : rd_T78 (fieldsB s) 0 = (fieldsB s)[0] := by simp [rd_T78, h0]
    rw [hr1] at h2
    by_cases g : (fieldsB s)[0].f0 = 35
    · exact g
    · exact absurd (.inr g) h2
  refine ⟨rfl, rfl, h0, h35, ?_⟩
  show valsOf (fieldsB s) 35 = _
  unfold valsOf
  match hl : fieldsB s, h0, h35 with
  | x :: r, _, h35 => rw [List.find?_cons_of_pos (p := fun z : S78 => z.f0 == 35) (by simpa using h35)]; rfl
end Go.Proofs.YtgfigkfcmkdjdaaDoor.B
end
section
namespace Go.Proofs.YtgfigkfcmkdjdaaDoor.B
open Go.RowKit Go.Proofs.YtgfigkfcmkdjdaaDoorW.PrintWords Go.Proofs.YtgfigkfcmkdjdaaDoorW.PrintLast Go.Proofs.YtgfigkfcmkdjdaaDoorW.PrintMore
attribute [local go_sem] max2_int min2_int max_two min_two max_three min_three max_four min_four   -- for this text's walks alone
set_option linter.unusedVariables false
set_option linter.unusedSimpArgs false
theorem drop_cons_n (s : ByteArray) (pos : Nat) (h : pos < s.size) : s.data.toList.drop pos = s[pos]'h :: s.data.toList.drop (pos + 1) := by
  rw [List.drop_eq_getElem_cons (by rw [size_list]; exact h)]; rfl
def NoIs (r : Nat × Nat) (w : World) (e : Ending) (w' : World) : Prop := e = .returned (.tuple #[.int .i64 (r.1 : Int), .int .i64 (r.2 : Int)]) ∧ Below w.heap.size w w'
theorem NoIs.mk_ {r : Nat × Nat} {w w' : World} {a b : Nat} (h : (a, b) = r) (hw : Below w.heap.size w w') : NoIs r w (.returned (.tuple #[.int .i64 (a : Int), .int .i64 (b : Int)])) w' := by
  subst h; exact ⟨rfl, hw⟩
set_option maxRecDepth 100000 in
set_option maxHeartbeats 2000000 in
theorem body_Number_walk (s : ByteArray) (w : World) (hs : s.size ≤ 140737488351232) :
    Calls Tryd.prog 107 #[.string s] w (NoIs (numP s.data.toList) w) := by
  have hsl : s.data.toList.length = s.size := rfl
  by_cases c1 : s.size = 0
  · have hnil : s.data.toList = [] := List.eq_nil_of_length_eq_zero (by omega)
    have HF := Aside0.mk (show ((0 : Nat), (112 : Nat)) = numP s.data.toList by unfold numP; rw [if_pos (.inl hnil)])
    have e1 : (s.toList == ([] : List UInt8)) = true := by rw [ByteArray.toList_eq, hnil]; rfl
    clear hnil hsl
    go_enter Tryd.func107, Tryd.ntmps107
    go_wp2
    go_ret2
    exact NoIs.mk_ HF.out (Below.refl _ _)
  · have hne : ¬ s.data.toList = [] := fun e => by rw [e] at hsl; simp at hsl; omega
    have e1 : (s.toList == ([] : List UInt8)) = false := by rw [ByteArray.toList_eq, beq_eq_false_iff_ne]; exact hne
    have hlt : (0 : Int) < (s.size : Int) := by omega
    have hx0 : s.data.toList.getD 0 0 = s[0]'(by omega) := by
      rw [List.getD_eq_getElem?_getD, List.getElem?_eq_getElem (by omega)]; rfl
    have hlt2 : 0 < s.size := by omega
    by_cases c2 : s.data.toList.getD 0 0 = 48 ∧ 1 < s.data.toList.length
    · have HF := Aside0.mk (show ((0 : Nat), (112 : Nat)) = numP s.data.toList by unfold numP; rw [if_pos (.inr c2)])
      have hb0 : (s[0]'hlt2).toNat = 48 := by rw [← hx0, c2.1]; rfl
      have e3 : decide ((1 : Int) < (s.size : Int)) = true := by rw [decide_eq_true_eq]; omega
      have e4 : decide (1 < s.size) = true := by rw [decide_eq_true_eq]; omega
      clear hne hsl c2 hx0
      go_enter Tryd.func107, Tryd.ntmps107
      go_wp2
      go_ret2
      exact NoIs.mk_ HF.out (Below.refl _ _)
    · have HN := Aside0.mk (show numP s.data.toList = noP s.data.toList 0 by unfold numP; rw [if_neg (fun e => e.elim hne c2)])
      have hcase : (((s[0]'hlt2).toNat : Int) == 48) = false ∨ ((((s[0]'hlt2).toNat : Int) == 48) = true ∧ decide ((1 : Int) < (s.size : Int)) = false ∧ decide (1 < s.size) = false) := by
        by_cases g : s.data.toList.getD 0 0 = 48
        · right
          rw [hx0] at g
          refine ⟨by rw [g]; rfl, ?_, ?_⟩ <;> rw [decide_eq_false_iff_not] <;> (intro k; exact c2 ⟨by rw [hx0]; exact g, by omega⟩)
        · left
          rw [beq_eq_false_iff_ne]
          intro k
          exact g (by rw [hx0]; exact u8_ext (by show _ = 48; omega))
      clear hne hsl c2 hx0
      rcases hcase with e2 | ⟨e2, e3, e4⟩
      all_goals
        go_enter Tryd.func107, Tryd.ntmps107
        go_wp2
        go_loopw [4] (fun t w' => ∃ pos n : Nat, w' = w.iter s pos ∧ t = .int .i64 (n : Int) ∧ pos ≤ s.size ∧ n ≤ 9223372036854775807 ∧ Aside0 (noP (s.data.toList.drop pos) n = noP s.data.toList 0)) (fun _ w' => s.size - w'.iterPos w.heap.size)
        case atStart => exact ⟨0, 0, rfl, rfl, Nat.zero_le _, by omega, ⟨rfl⟩⟩
        case round =>
          obtain ⟨pos, n, rfl, rfl, hpos, hn, hA⟩ := hrel
          clear e1 e2 hlt
          have hBel : Aside0 (∀ p, Below w.heap.size w (w.iter s p)) := ⟨fun p => (Below.refl _ _).alloc (Nat.le_refl _) _⟩
          by_cases hp : pos < s.size
          · have hcons := drop_cons_n s pos hp
            by_cases ha : (s[pos]'hp).toNat < 128
            · have hnx : ∀ ty, (Instr.next (.pointer (some ⟨w.heap.size, 0, none⟩)) true ty).run Tryd.prog (w.iter s pos) = _ := fun ty => run_next_ascii w s pos ty hp ha
              rw [hcons] at hA
              clear hcons
              generalize s[pos]'hp = b at *
              have hb48 : isDig b ↔ 48 ≤ b.toNat ∧ b.toNat ≤ 57 := Iff.rfl
              generalize hN : b.toNat = c at *
              by_cases g1 : c < 48
              · have HF := Aside0.mk (hA.out.symm.trans (noP_bad b _ n (by rw [hb48]; omega)))
                have t1 : decide ((c : Int) < 48) = true := by rw [decide_eq_true_eq]; omega
                have t2 : decide (c < 48) = true := by rw [decide_eq_true_eq]; omega
                clear hA hb48 hN g1
                go_wp2
                go_ret2
                exact NoIs.mk_ (a := 0) (b := 112) (by rw [HN.out]; exact HF.out.symm) (hBel.out _)
              have t1 : decide ((c : Int) < 48) = false := by rw [decide_eq_false_iff_not]; omega
              have t2 : decide (c < 48) = false := by rw [decide_eq_false_iff_not]; omega
              by_cases g2 : 57 < c
              · have HF := Aside0.mk (hA.out.symm.trans (noP_bad b _ n (by rw [hb48]; omega)))
                have t3 : decide ((57 : Int) < (c : Int)) = true := by rw [decide_eq_true_eq]; omega
                have t4 : decide (57 < c) = true := by rw [decide_eq_true_eq]; omega
                clear hA hb48 hN g1 g2
                go_wp2
                go_ret2
                exact NoIs.mk_ (a := 0) (b := 112) (by rw [HN.out]; exact HF.out.symm) (hBel.out _)
              have t3 : decide ((57 : Int) < (c : Int)) = false := by rw [decide_eq_false_iff_not]; omega
              have t4 : decide (57 < c) = false := by rw [decide_eq_false_iff_not]; omega
              have hdig : isDig b := hb48.2 ⟨by omega, by omega⟩
              have k1 : wrap32 ((c : Int) - 48) = (c : Int) - 48 := by unfold wrap32; omega
              have k2 : wrap64 ((c : Int) - 48) = (c : Int) - 48 := by unfold wrap64; omega
              have k3 : wrap64 (9223372036854775807 - ((c : Int) - 48)) = 9223372036854775807 - ((c : Int) - 48) := by unfold wrap64; omega
              have k4 : Int.tdiv (9223372036854775807 - ((c : Int) - 48)) 10 = (9223372036854775807 - ((c : Int) - 48)) / 10 := Int.tdiv_eq_ediv_of_nonneg (by omega)
              by_cases g3 : 9223372036854775807 < 10 * n + (c - 48)
              · have HF := Aside0.mk (hA.out.symm.trans (noP_big b _ n hdig (by rw [hN]; exact g3)))
                have t5 : decide ((9223372036854775807 - ((c : Int) - 48)) / 10 < (n : Int)) = true := by rw [decide_eq_true_eq]; omega
                clear hA hb48 hN g1 g2 g3 hdig
                go_wp2
                go_ret2
                exact NoIs.mk_ (a := 0) (b := 112) (by rw [HN.out]; exact HF.out.symm) (hBel.out _)
              · have HA2 := Aside0.mk ((noP_go b (s.data.toList.drop (pos + 1)) n hdig (by rw [hN]; exact g3)).symm.trans hA.out)
                rw [hN] at HA2
                have t5 : decide ((9223372036854775807 - ((c : Int) - 48)) / 10 < (n : Int)) = false := by rw [decide_eq_false_iff_not]; omega
                have k5 : wrap64 (10 * (n : Int)) = 10 * (n : Int) := by unfold wrap64; omega
                have k6 : wrap64 (10 * (n : Int) + ((c : Int) - 48)) = 10 * (n : Int) + ((c : Int) - 48) := by unfold wrap64; omega
                have hv : ((10 * n + (c - 48) : Nat) : Int) = 10 * (n : Int) + ((c : Int) - 48) := by omega
                have HV := Aside0.mk (And.intro hv (show 10 * n + (c - 48) ≤ 9223372036854775807 by omega))
                clear hA hb48 hN g1 g2 g3 hdig hv
                go_wp2
                go_roundw
                case rel => exact ⟨pos + 1, 10 * n + (c - 48), rfl, by have := HV.out.1; simp only [Value.int.injEq, true_and]; omega, hp, HV.out.2, HA2⟩
                case measure => simp; omega
            · have hnx : ∀ ty, (Instr.next (.pointer (some ⟨w.heap.size, 0, none⟩)) true ty).run Tryd.prog (w.iter s pos) = _ := fun ty => run_next_any w s pos ty hp
              have hh := (decode_high s pos hp (by omega)).1
              have hle := decode_le s pos
              rw [hcons] at hA
              have HF := Aside0.mk (hA.out.symm.trans (noP_bad (s[pos]'hp) _ n (by unfold isDig; omega)))
              clear hA hcons ha
              generalize (Utf8.decode s pos).1 = r at *
              generalize (Utf8.decode s pos).2 = wd at *
              have t1 : decide ((r : Int) < 48) = false := by rw [decide_eq_false_iff_not]; omega
              have t2 : decide (r < 48) = false := by rw [decide_eq_false_iff_not]; omega
              have t3 : decide ((57 : Int) < (r : Int)) = true := by rw [decide_eq_true_eq]; omega
              have t4 : decide (57 < r) = true := by rw [decide_eq_true_eq]; omega
              go_wp2
              go_ret2
              exact NoIs.mk_ (a := 0) (b := 112) (by rw [HN.out]; exact HF.out.symm) (hBel.out _)
          · have hnx : ∀ ty, (Instr.next (.pointer (some ⟨w.heap.size, 0, none⟩)) true ty).run Tryd.prog (w.iter s pos) = _ := fun ty => run_next_end w s pos ty hp
            have HF := Aside0.mk ((show noP (s.data.toList.drop pos) n = (n, 0) by rw [List.drop_eq_nil_of_le (by rw [size_list]; omega)]; rfl).symm.trans hA.out)
            clear hA
            go_wp2
            go_ret2
            exact NoIs.mk_ (a := n) (b := 0) (by rw [HN.out]; exact HF.out) (hBel.out _)
end Go.Proofs.YtgfigkfcmkdjdaaDoor.B
end
section
namespace Go.Proofs.YtgfigkfcmkdjdaaDoor.B
open Go.RowKit Go.Proofs.YtgfigkfcmkdjdaaDoorW.PrintWords Go.Proofs.YtgfigkfcmkdjdaaDoorW.PrintLast Go.Proofs.YtgfigkfcmkdjdaaDoorW.PrintMore
attribute [local go_sem] max2_int min2_int max_two min_two max_three min_three max_four min_four   -- for this text's walks alone
set_option linter.unusedVariables false
set_option linter.unusedSimpArgs false
set_option maxRecDepth 100000 in
theorem int_closure (b0 b1 : Nat) (low high : Int) (s : ByteArray) (W : World) (hs : s.size ≤ 140737488351232) (h0 : W.cell? ⟨b0, 0, none⟩ = some (.int .i64 low)) (h1 : W.cell? ⟨b1, 0, none⟩ = some (.int .i64 high)) :
    Calls Tryd.prog 106 (#[.string s] ++ #[.pointer (some ⟨b0, 0, none⟩), .pointer (some ⟨b1, 0, none⟩)]) W fun e w' => e = .returned (.tuple #[.int .i64 (takeInt s low high).1, .int .i64 (takeInt s low high).2]) ∧ Below W.heap.size W w' := by
  have HN := Aside0.mk (body_Number_walk s W hs)
  have l0 := World.block_lt_of_cell? W _ h0
  have l1 := World.block_lt_of_cell? W _ h1
  unfold takeInt
  generalize hr : numP s.data.toList = r at *
  obtain ⟨n, e⟩ := r
  go_enter Tryd.func106, Tryd.ntmps106
  go_wp2_with (go_at_call 107; refine HN.out.mono ?_; rintro en w1 ⟨rfl, hb⟩; have h0' := (hb.cell (p := ⟨b0, 0, none⟩) l0).trans h0; have h1' := (hb.cell (p := ⟨b1, 0, none⟩) l1).trans h1)
  all_goals go_ret2
  all_goals exact ⟨rfl, hb⟩
set_option maxRecDepth 100000 in
set_option maxHeartbeats 4000000 in
theorem ask_int (g : Nat) (p : PlS) (F : FormS) (k : Nat) (w : World) (h : FormIs g p F k w) (hk : k < 9223372036854775807) (hv : ∀ x s, F.vals x = some s → s.size ≤ 140737488351232) (t low high : Int) (ht : i64ok t) (b0 b1 : Nat)
    (h0 : w.cell? ⟨b0, 0, none⟩ = some (.int .i64 low)) (h1 : w.cell? ⟨b1, 0, none⟩ = some (.int .i64 high)) (n0 : ¬ FormB g p b0) (n1 : ¬ FormB g p b1) :
    Calls Tryd.prog 105 #[.pointer (some ⟨g, 0, none⟩), .int .i64 t, .func (.func 106) #[] #[.pointer (some ⟨b0, 0, none⟩), .pointer (some ⟨b1, 0, none⟩)]] w fun e w' =>
      e = .returned (.int .i64 (askL (fun s => takeInt s low high) 0 F t).1) ∧ FormIs g p (askL (fun s => takeInt s low high) 0 F t).2 (k + 1) w' ∧ Turned (FormB g p) w w' := by
  have hc1 := h.c1
  have hc2 := h.c2
  have hc4 := h.c4
  have HF := Aside0.mk h
  have HIs := Aside0.mk (form_is g p F k w h)
  by_cases he : F.e = 0
  · have t1 : (F.e != 0) = false := by rw [he]; rfl
    obtain ⟨w1, hrun, hAs, hgr⟩ := h.asked.put t ht hk
    have HF1 : Aside0 (FormIs g p (F.mark t) (k + 1) w1) := ⟨h.ask hAs hgr⟩
    have HT : Aside0 (Turned (FormB g p) w w1) := ⟨Turned.of_grown hgr (.inr rfl)⟩
    have HH := Aside0.mk (form_has g p _ _ w1 HF1.out t ht)
    have h0' := HT.out.cell h0 n0
    have h1' := HT.out.cell h1 n1
    have hc11 := HF1.out.c1
    have hlk := HF1.out.vals.look t ht
    clear hgr hAs h0 h1
    have hc31 := HF1.out.c3
    have hc41 := HF1.out.c4
    have hl31 := HF1.out.l3
    have hl41 := HF1.out.l4
    rw [show (F.mark t).vals t = F.vals t from rfl] at HH hlk
    cases hvt : F.vals t with
    | none =>
      have HA := Aside0.mk (askL_none (fun s => takeInt s low high) 0 F t he hvt)
      rw [hvt] at HH hlk
      have HE := Aside0.mk (HF1.out.fail t 110)
      have HT2 : Aside0 (Turned (FormB g p) w ((w1.setCell ⟨g, 3, none⟩ (.int .i64 t)).setCell ⟨g, 4, none⟩ (.int .i64 110))) := ⟨(HT.out.setCell (p := ⟨g, 3, none⟩) (.inl rfl) _).setCell (p := ⟨g, 4, none⟩) (.inl rfl) _⟩
      simp only [Option.isSome_none] at HH
      clear hlk
      go_enter Tryd.func105, Tryd.ntmps105
      go_wp2_with (first | (go_at_call 102; refine HIs.out.mono ?_; rintro e w' ⟨rfl, hh⟩; obtain rfl : w = w' := hh.symm) | (go_at_call 101; refine HH.out.mono ?_; rintro e w' ⟨rfl, hh⟩; obtain rfl : w1 = w' := hh.symm))
      go_ret
      rw [HA.out]
      exact ⟨rfl, HE.out, HT2.out⟩
    | some s =>
      have HA := Aside0.mk (askL_some (fun s => takeInt s low high) 0 F t he hvt)
      rw [hvt] at HH hlk
      simp only [Option.isSome_some, Option.getD_some] at HH hlk
      have HC := Aside0.mk (int_closure b0 b1 low high s w1 (hv t s hvt) h0' h1')
      try simp only at HA
      generalize hr : takeInt s low high = r at *
      obtain ⟨n, e⟩ := r
      try simp only at HA HC
      clear hr h0' h1'
      have HR : Aside0 (∀ w2, Below w1.heap.size w1 w2 → FormIs g p (F.mark t) (k + 1) w2 ∧ Turned (FormB g p) w w2) := ⟨fun w2 hb => ⟨HF1.out.below hb, HT.out.trans (Turned.of_below hb)⟩⟩
      have HE : Aside0 (∀ w2, FormIs g p (F.mark t) (k + 1) w2 → Turned (FormB g p) w w2 → FormIs g p ((F.mark t).fail t e) (k + 1) ((w2.setCell ⟨g, 3, none⟩ (.int .i64 t)).setCell ⟨g, 4, none⟩ (.int .i64 e)) ∧ Turned (FormB g p) w ((w2.setCell ⟨g, 3, none⟩ (.int .i64 t)).setCell ⟨g, 4, none⟩ (.int .i64 e))) := ⟨fun w2 h2 ht2 => ⟨h2.fail t e, (ht2.setCell (p := ⟨g, 3, none⟩) (.inl rfl) _).setCell (p := ⟨g, 4, none⟩) (.inl rfl) _⟩⟩
      by_cases ce : e = 0
      · have HA2 : Aside0 (askL (fun s => takeInt s low high) 0 F t = (n, F.mark t)) := ⟨HA.out.trans (if_pos ce)⟩
        have t2 : (e == 0) = true := by rw [ce]; rfl
        clear HA
        go_enter Tryd.func105, Tryd.ntmps105
        go_wp2_with (first | (go_at_call 102; refine HIs.out.mono ?_; rintro e w' ⟨rfl, hh⟩; obtain rfl : w = w' := hh.symm) | (go_at_call 101; refine HH.out.mono ?_; rintro e w' ⟨rfl, hh⟩; obtain rfl : w1 = w' := hh.symm) | (go_at_call 106; refine HC.out.mono ?_; rintro en w2 ⟨rfl, hb⟩; have HR2 := Aside0.mk (HR.out w2 hb); have hc32 := HR2.out.1.c3; have hc42 := HR2.out.1.c4; have hl32 := HR2.out.1.l3; have hl42 := HR2.out.1.l4; clear hb))
        go_ret
        rw [HA2.out]
        exact ⟨rfl, HR2.out.1, HR2.out.2⟩
      · have HA2 : Aside0 (askL (fun s => takeInt s low high) 0 F t = (0, (F.mark t).fail t e)) := ⟨HA.out.trans (if_neg ce)⟩
        have t2 : (e == 0) = false := by rw [beq_eq_false_iff_ne]; exact ce
        clear HA
        go_enter Tryd.func105, Tryd.ntmps105
        go_wp2_with (first | (go_at_call 102; refine HIs.out.mono ?_; rintro e w' ⟨rfl, hh⟩; obtain rfl : w = w' := hh.symm) | (go_at_call 101; refine HH.out.mono ?_; rintro e w' ⟨rfl, hh⟩; obtain rfl : w1 = w' := hh.symm) | (go_at_call 106; refine HC.out.mono ?_; rintro en w2 ⟨rfl, hb⟩; have HR2 := Aside0.mk (HR.out w2 hb); have hc32 := HR2.out.1.c3; have hc42 := HR2.out.1.c4; have hl32 := HR2.out.1.l3; have hl42 := HR2.out.1.l4; clear hb))
        go_ret
        rw [HA2.out]
        exact ⟨rfl, (HE.out w2 HR2.out.1 HR2.out.2).1, (HE.out w2 HR2.out.1 HR2.out.2).2⟩
  · have HA : Aside0 (askL (fun s => takeInt s low high) 0 F t = (0, F)) := ⟨askL_off _ _ _ _ he⟩
    have t1 : (F.e != 0) = true := by rw [bne_iff_ne]; exact he
    go_enter Tryd.func105, Tryd.ntmps105
    go_wp2_with (go_at_call 102; refine HIs.out.mono ?_; rintro e w' ⟨rfl, hh⟩; obtain rfl : w = w' := hh.symm)
    go_ret
    rw [HA.out]
    exact ⟨rfl, HF.out.mono (by omega), Turned.refl _ _⟩
set_option maxRecDepth 100000 in
set_option maxHeartbeats 4000000 in
theorem form_int (g : Nat) (p : PlS) (F : FormS) (k : Nat) (w : World) (h : FormIs g p F k w) (hk : k < 9223372036854775807) (hv : ∀ x s, F.vals x = some s → s.size ≤ 140737488351232) (t low high : Int) (ht : i64ok t) (ha : p.a < w.heap.size) :
    Calls Tryd.prog 61 #[.pointer (some ⟨g, 0, none⟩), .int .i64 t, .int .i64 low, .int .i64 high] w fun e w' =>
      e = .returned (.int .i64 (askL (fun s => takeInt s low high) 0 F t).1) ∧ FormIs g p (askL (fun s => takeInt s low high) 0 F t).2 (k + 1) w' ∧ Turned (FormB g p) w w' := by
  have hg := h.lt
  have HB : Aside0 (Below w.heap.size w ((w.alloc (.cells #[.int .i64 low] 3)).alloc (.cells #[.int .i64 high] 3))) := ⟨((Below.refl _ _).alloc (Nat.le_refl _) _).alloc (by simp) _⟩
  have HF := Aside0.mk (h.below HB.out)
  have HAk := Aside0.mk (ask_int g p F k _ HF.out hk hv t low high ht w.heap.size (w.heap.size + 1) (by simp [go_sem]) (by simp [go_sem]) (fun e => by rcases e with e | e <;> omega) (fun e => by rcases e with e | e <;> omega))
  have hmf : ∀ (fn : Fn) (first cap : Array Value) (w : World), (Instr.makeFunc fn first cap).run Tryd.prog w = .ok (.func fn first cap) w := fun _ _ _ _ => rfl
  go_enter Tryd.func61, Tryd.ntmps61
  go_wp2_with (go_at_call 105; refine HAk.out.mono ?_; rintro e w' ⟨rfl, h1, h2⟩)
  go_ret
  exact ⟨rfl, h1, (Turned.of_below HB.out).trans h2⟩
end Go.Proofs.YtgfigkfcmkdjdaaDoor.B
end
section
namespace Go.Proofs.YtgfigkfcmkdjdaaDoor.B
open Go.RowKit Go.Proofs.YtgfigkfcmkdjdaaDoorW.PrintWords Go.Proofs.YtgfigkfcmkdjdaaDoorW.PrintLast Go.Proofs.YtgfigkfcmkdjdaaDoorW.PrintMore
attribute [local go_sem] max2_int min2_int max_two min_two max_three min_three max_four min_four   -- for this text's walks alone
set_option linter.unusedVariables false
set_option linter.unusedSimpArgs false
theorem askL_vals {α : Type} (take : ByteArray → α × Int) (z : α) (F : FormS) (t : Int) : (askL take z F t).2.vals = F.vals := by
  unfold askL
  split
  · rfl
  · split
    · rfl
    · split <;> rfl
theorem askL_order {α : Type} (take : ByteArray → α × Int) (z : α) (F : FormS) (t : Int) : (askL take z F t).2.order = F.order := by
  unfold askL
  split
  · rfl
  · split
    · rfl
    · split <;> rfl
theorem Turned.imp {S S' : Nat → Prop} {w w' : World} (h : Turned S w w') (hs : ∀ k, S k → S' k) : Turned S' w w' := ⟨h.os, h.tape, h.output, h.size, fun k hk hn => h.block k hk (fun e => hn (hs k e))⟩
section
variable {w : World} {g : Nat} {p : PlS} {L : List S78} {b : Nat} {T : TypeId} {F F' : FormS} {k k' : Nat} {cs : Array Value} {W W' : World}
end
end Go.Proofs.YtgfigkfcmkdjdaaDoor.B
end
section
namespace Go.Proofs.YtgfigkfcmkdjdaaDoor.B
open Go.RowKit Go.Proofs.YtgfigkfcmkdjdaaDoorW.PrintWords Go.Proofs.YtgfigkfcmkdjdaaDoorW.PrintLast Go.Proofs.YtgfigkfcmkdjdaaDoorW.PrintMore
attribute [local go_sem] max2_int min2_int max_two min_two max_three min_three max_four min_four   -- for this text's walks alone
set_option linter.unusedVariables false
set_option linter.unusedSimpArgs false
instance : DecidableEq TellV := fun a b => by
  cases a; cases b
  simp only [TellV.mk.injEq]
  exact inferInstance
def RtIs (b : Bool) (w : World) (e : Ending) (w' : World) : Prop := e = .returned (.bool b) ∧ Below w.heap.size w w'
theorem RtIs.mk_ {a b : Bool} {w w' : World} (h : a = b) (hw : Below w.heap.size w w') : RtIs b w (.returned (.bool a)) w' := by subst h; exact ⟨rfl, hw⟩
end Go.Proofs.YtgfigkfcmkdjdaaDoor.B
end
section
namespace Go.Proofs.YtgfigkfcmkdjdaaDoor.B
open Go.RowKit Go.Proofs.YtgfigkfcmkdjdaaDoorW.PrintWords Go.Proofs.YtgfigkfcmkdjdaaDoorW.PrintLast Go.Proofs.YtgfigkfcmkdjdaaDoorW.PrintMore
attribute [local go_sem] max2_int min2_int max_two min_two max_three min_three max_four min_four   -- for this text's walks alone
set_option linter.unusedVariables false
set_option linter.unusedSimpArgs false
def tag_value.f (a0 : ByteArray) : Option Bool := if a0.size ≤ 9223372036854775807 then some (valueL a0.data.toList) else none
def BoolIs (b : Bool) (w : World) (e : Ending) (w' : World) : Prop := e = .returned (.bool b) ∧ Below w.heap.size w w'
theorem BoolIs.mk_ {a b : Bool} {w w' : World} (h : a = b) (hw : Below w.heap.size w w') : BoolIs b w (.returned (.bool a)) w' := by subst h; exact ⟨rfl, hw⟩
set_option maxHeartbeats 1000000 in
theorem tag_value_walk (s : ByteArray) (w : World) (hs : s.size ≤ 9223372036854775807) :
    Calls Tryd.prog 120 #[.string s] w (BoolIs (valueL s.data.toList) w) := by
  have hV : valueL s.data.toList = (decide (1 ≤ s.size) && (decide (s.size ≤ 512) && allMay s.data.toList)) := rfl
  by_cases c1 : s.size < 1
  · have HF := Aside0.mk (show false = valueL s.data.toList by rw [hV, decide_eq_false (by omega)]; rfl)
    have t1 : decide ((s.size : Int) < 1) = true := by rw [decide_eq_true_eq]; omega
    clear hV
    go_enter Tryd.func120, Tryd.ntmps120
    go_wp2
    go_ret
    exact BoolIs.mk_ HF.out (Below.refl _ _)
  have t1 : decide ((s.size : Int) < 1) = false := by rw [decide_eq_false_iff_not]; omega
  by_cases c2 : 512 < s.size
  · have HF := Aside0.mk (show false = valueL s.data.toList by rw [hV, decide_eq_false (p := s.size ≤ 512) (by omega)]; simp)
    have t2 : decide ((512 : Int) < (s.size : Int)) = true := by rw [decide_eq_true_eq]; omega
    clear hV
    go_enter Tryd.func120, Tryd.ntmps120
    go_wp2
    go_ret
    exact BoolIs.mk_ HF.out (Below.refl _ _)
  have t2 : decide ((512 : Int) < (s.size : Int)) = false := by rw [decide_eq_false_iff_not]; omega
  have HF := Aside0.mk (show valueL s.data.toList = allMay s.data.toList by rw [hV, decide_eq_true (by omega), decide_eq_true (by omega)]; simp)
  have HB : Aside0 (∀ p, Below w.heap.size w (w.iter s p)) := ⟨fun p => (Below.refl _ _).alloc (Nat.le_refl _) _⟩
  clear hV
  go_enter Tryd.func120, Tryd.ntmps120
  go_wp2
  go_loopw [4] (fun _ w' => ∃ pos : Nat, w' = w.iter s pos ∧ Aside0 (allMay (s.data.toList.drop pos) = allMay s.data.toList)) (fun _ w' => s.size - w'.iterPos w.heap.size)
  case atStart => exact ⟨0, rfl, ⟨rfl⟩⟩
  case round =>
    obtain ⟨pos, rfl, hA⟩ := hrel
    by_cases hp : pos < s.size
    · have hnx : ∀ ty, (Instr.next (.pointer (some ⟨w.heap.size, 0, none⟩)) true ty).run Tryd.prog (w.iter s pos) = _ := fun ty => run_next_any w s pos ty hp
      have hle := decode_le s pos
      have hst := hA.out
      rw [allMay_cons _ (drop_ne_nil s pos hp), dec_drop, List.drop_drop] at hst
      have hwd := dec_width (s.data.toList.drop pos)
      rw [dec_drop] at hwd
      clear hA
      generalize (Utf8.decode s pos).1 = r at *
      generalize (Utf8.decode s pos).2 = wd at *
      have HM : Aside0 (∀ w, Calls Tryd.prog 137 #[.int .i32 (r : Int)] w fun e w' => e = .returned (.bool (mayB r)) ∧ w = w') := ⟨fun w => tag_may_same r hle w⟩
      cases hm : mayB r with
      | false =>
        rw [hm] at hst HM
        have HS := Aside0.mk hst
        clear hst hm
        go_wp2_with (go_at_call 137; refine (HM.out _).mono ?_; rintro e w1 ⟨rfl, rfl⟩)
        go_ret
        exact BoolIs.mk_ (by rw [HF.out, ← HS.out]; rfl) (HB.out _)
      | true =>
        rw [hm] at hst HM
        have HS := Aside0.mk hst
        clear hst hm
        go_wp2_with (go_at_call 137; refine (HM.out _).mono ?_; rintro e w1 ⟨rfl, rfl⟩)
        go_roundw
        case rel => exact ⟨pos + wd, rfl, ⟨by have := HS.out; simpa using this⟩⟩
        case measure => simp; omega
    · have hnx : ∀ ty, (Instr.next (.pointer (some ⟨w.heap.size, 0, none⟩)) true ty).run Tryd.prog (w.iter s pos) = _ := fun ty => run_next_end w s pos ty hp
      have HS := Aside0.mk (show true = allMay s.data.toList by rw [← hA.out, drop_nil_of s pos hp, allMay_nil])
      clear hA
      go_wp2
      go_ret
      exact BoolIs.mk_ (by rw [HF.out]; exact HS.out) (HB.out _)
theorem tag_value.calls (a0 : ByteArray) (r : Bool) (w : World) (h : tag_value.f a0 = some r) :
    Calls Tryd.prog 120 #[.string a0] w fun e w' => e = .returned (.bool r) ∧ Below w.heap.size w w' := by
  unfold tag_value.f at h
  by_cases c : a0.size ≤ 9223372036854775807
  · rw [if_pos c] at h
    obtain rfl := Option.some.inj h
    exact tag_value_walk a0 w c
  · rw [if_neg c] at h; cases h
end Go.Proofs.YtgfigkfcmkdjdaaDoor.B
end
section
namespace Go.Proofs.YtgfigkfcmkdjdaaDoor.B
open Go.RowKit Go.Proofs.YtgfigkfcmkdjdaaDoorW.PrintWords Go.Proofs.YtgfigkfcmkdjdaaDoorW.PrintLast Go.Proofs.YtgfigkfcmkdjdaaDoorW.PrintMore
attribute [local go_sem] max2_int min2_int max_two min_two max_three min_three max_four min_four   -- for this text's walks alone
set_option linter.unusedVariables false
set_option linter.unusedSimpArgs false
def strconv_Itoa.f (a0 : Int) : Option ByteArray := if 0 ≤ a0 ∧ a0 ≤ 9223372036854775807 then some (digitsB a0) else none
theorem strconv_Itoa.calls (a0 : Int) (r : ByteArray) (w : World) (hT_ : Aside0 (Tabs_ w)) (h : strconv_Itoa.f a0 = some r) :
    Calls Tryd.prog 49 #[.int .i64 a0] w fun e w' => e = .returned (.string r) ∧ Below w.heap.size w w' := by
  unfold strconv_Itoa.f at h
  by_cases c : 0 ≤ a0 ∧ a0 ≤ 9223372036854775807
  · rw [if_pos c] at h
    obtain rfl := Option.some.inj h
    refine (Tryd.strconv_Itoa a0 (by omega) c.2 w hT_.out.tab).mono ?_
    rintro e w' ⟨rfl, k, os, rfl⟩
    refine ⟨?_, Lib.below_grow _ w (Nat.le_refl _) k os⟩
    obtain ⟨n, rfl⟩ := Int.eq_ofNat_of_zero_le c.1
    unfold digitsB
    rw [Lib.itoa_nonneg, decDigits_digitsN, Int.toNat_natCast]
  · rw [if_neg c] at h; cases h
end Go.Proofs.YtgfigkfcmkdjdaaDoor.B
end
