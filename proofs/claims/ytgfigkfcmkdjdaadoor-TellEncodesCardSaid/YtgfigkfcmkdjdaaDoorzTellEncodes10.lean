/- The functions that the law reaches, as plain Lean functions, and their contracts: texts merged. -/
import Derived.Test.YtgfigkfcmkdjdaaDoorzTellEncodes2
import Derived.Test.YtgfigkfcmkdjdaaDoorzTellEncodes0
import Derived.Test.YtgfigkfcmkdjdaaDoorzTellEncodes1
import Derived.Test.YtgfigkfcmkdjdaaDoorzTellEncodes3
import Derived.Test.YtgfigkfcmkdjdaaDoorzTellEncodes4
import Derived.Test.YtgfigkfcmkdjdaaDoorzTellEncodes5
import Derived.Test.YtgfigkfcmkdjdaaDoorzTellEncodes6
import Derived.Test.YtgfigkfcmkdjdaaDoorzTellEncodes7
import Derived.Test.YtgfigkfcmkdjdaaDoorzTellEncodes8
import Derived.Test.YtgfigkfcmkdjdaaDoorzTellEncodes9
section
namespace Go.Proofs.YtgfigkfcmkdjdaaDoor.B
open Go.RowKit Go.Proofs.YtgfigkfcmkdjdaaDoorW.PrintWords Go.Proofs.YtgfigkfcmkdjdaaDoorW.PrintLast Go.Proofs.YtgfigkfcmkdjdaaDoorW.PrintMore
attribute [local go_sem] max2_int min2_int max_two min_two max_three min_three max_four min_four   -- for this text's walks alone
set_option linter.unusedVariables false
set_option linter.unusedSimpArgs false
structure TellV where
  f0 : Int
  f1 : ByteArray
  f2 : ByteArray
  f3 : Int
  f4 : Int
  f5 : Int
  f6 : Int
  f7 : Int
  f8 : Int
  f9 : Int
def zTell : TellV := ⟨0, ⟨#[]⟩, ⟨#[]⟩, 0, 0, 0, 0, 0, 0, 0⟩
def tellKind (s : ByteArray) : Nat := if s = ⟨#[56]⟩ then 1 else if s = ⟨#[57]⟩ then 2 else if s = ⟨#[51]⟩ then 3 else if s = ⟨#[106]⟩ then 4 else 0
def tellSchema : Nat → List AskT
  | 1 => [.name 11, .name 17, .int 39 0 9, .int 32 0 1099511627776, .int 31 0 1099511627776, .int 14 0 1099511627776, .int 151 0 1099511627776, .int 103 0 999]
  | 2 => [.name 11, .int 39 0 9, .int 103 0 999]
  | 3 => [.int 371 0 99999, .int 373 0 999]
  | 4 => [.int 371 0 99999, .int 380 0 999]
  | _ => []
def tellOf : Nat → List ValT → TellV
  | 1, [v0, v1, v2, v3, v4, v5, v6, v7] => ⟨1, v0.str, v1.str, v2.num, v3.num, v4.num, v5.num, v6.num, 0, v7.num⟩
  | 2, [v0, v1, v2] => ⟨2, v0.str, ⟨#[]⟩, v1.num, 0, 0, 0, 0, 0, v2.num⟩
  | 3, [v0, v1] => ⟨3, ⟨#[]⟩, ⟨#[]⟩, 0, 0, 0, 0, 0, v0.num, v1.num⟩
  | 4, [v0, v1] => ⟨4, ⟨#[]⟩, ⟨#[]⟩, 0, 0, 0, 0, 0, v0.num, v1.num⟩
  | _, _ => zTell
def tellD (s : ByteArray) : TellV × Int × Int :=
  match readB s with
  | (none, e) => (zTell, 0, e)
  | (some F, _) =>
    if tellKind ((F.vals 35).getD ⟨#[]⟩) = 0 then (zTell, 35, 120) else
    if (doneL (asksT (tellSchema (tellKind ((F.vals 35).getD ⟨#[]⟩))) (F.mark 35)).2).2 ≠ 0 then (zTell, doneL (asksT (tellSchema (tellKind ((F.vals 35).getD ⟨#[]⟩))) (F.mark 35)).2)
    else (tellOf (tellKind ((F.vals 35).getD ⟨#[]⟩)) (asksT (tellSchema (tellKind ((F.vals 35).getD ⟨#[]⟩))) (F.mark 35)).1, 0, 0)
theorem tellD_none {s : ByteArray} {e : Int} (h : readB s = (none, e)) : tellD s = (zTell, 0, e) := by unfold tellD; rw [h]
theorem tellD_zero {s : ByteArray} {F : FormS} {e : Int} {v : ByteArray} (h : readB s = (some F, e)) (hv : (F.vals 35).getD ⟨#[]⟩ = v) (hk : tellKind v = 0) : tellD s = (zTell, 35, 120) := by
  unfold tellD; rw [h]; simp only [hv]; rw [if_pos hk]
theorem tellD_bad {s : ByteArray} {F F' : FormS} {e t x : Int} {v : ByteArray} {k : Nat} {l : List ValT} (h : readB s = (some F, e)) (hv : (F.vals 35).getD ⟨#[]⟩ = v) (hk : tellKind v = k) (h0 : k ≠ 0) (ha : asksT (tellSchema k) (F.mark 35) = (l, F')) (hd : doneL F' = (t, x)) (hx : x ≠ 0) : tellD s = (zTell, t, x) := by
  unfold tellD; rw [h]; simp only [hv, hk, ha, hd]; rw [if_neg h0, if_pos hx]
theorem tellD_good {s : ByteArray} {F F' : FormS} {e t : Int} {v : ByteArray} {k : Nat} {l : List ValT} (h : readB s = (some F, e)) (hv : (F.vals 35).getD ⟨#[]⟩ = v) (hk : tellKind v = k) (h0 : k ≠ 0) (ha : asksT (tellSchema k) (F.mark 35) = (l, F')) (hd : doneL F' = (t, 0)) : tellD s = (tellOf k l, 0, 0) := by
  unfold tellD; rw [h]; simp only [hv, hk, ha, hd]; rw [if_neg h0, if_neg (by simp)]
theorem low_set {w W : World} (h : Below w.heap.size w W) (i : Nat) (u : Value) : Below w.heap.size w (W.setCell ⟨w.heap.size, i, none⟩ u) := h.setCell (Nat.le_refl _) u
def TellIs (r : TellV × Int × Int) (w : World) (e : Ending) (w' : World) : Prop :=
  e = .returned (.tuple #[.agg #[.int .i64 r.1.f0, .string r.1.f1, .string r.1.f2, .int .i64 r.1.f3, .int .i64 r.1.f4, .int .i64 r.1.f5, .int .i64 r.1.f6, .int .i64 r.1.f7, .int .i64 r.1.f8, .int .i64 r.1.f9], .int .i64 r.2.1, .int .i64 r.2.2]) ∧ Below w.heap.size w w'
theorem TellIs.mk_ {r : TellV × Int × Int} {a : TellV} {t x : Int} {w w' : World} (h : r = (a, t, x)) (hb : Below w.heap.size w w') :
    TellIs r w (.returned (.tuple #[.agg #[.int .i64 a.f0, .string a.f1, .string a.f2, .int .i64 a.f3, .int .i64 a.f4, .int .i64 a.f5, .int .i64 a.f6, .int .i64 a.f7, .int .i64 a.f8, .int .i64 a.f9], .int .i64 t, .int .i64 x])) w' := by
  subst h; exact ⟨rfl, hb⟩
def tellCells (a : TellV) : Array Value := #[.int .i64 a.f0, .string a.f1, .string a.f2, .int .i64 a.f3, .int .i64 a.f4, .int .i64 a.f5, .int .i64 a.f6, .int .i64 a.f7, .int .i64 a.f8, .int .i64 a.f9]
theorem readB_some {s : ByteArray} {F : FormS} {e : Int} (h : readB s = (some F, e)) : e = 0 ∧ F = formOf (fieldsB s) ∧ ∃ h0 : 0 < (fieldsB s).length, (fieldsB s)[0].f0 = 35 ∧ F.vals 35 = some (fieldsB s)[0].f1 := by
  unfold readB at h
  split at h
  · simp at h
  split at h
  · simp at h
  rename_i _ h2
  split at h
  · simp at h
  simp only [Prod.mk.injEq, Option.some.injEq] at h
  obtain ⟨rfl, rfl⟩ := h
  have h0 : 0 < (fieldsB s).length := by
    rcases Nat.eq_zero_or_pos (fieldsB s).length with g | g
    · exact absurd (.inl g) h2
    · exact g
  have h35 : (fieldsB s)[0].f0 = 35 := by
    have hr1 : rd_T78 (fieldsB s) 0 = (fieldsB s)[0] := by simp [rd_T78, h0]
    rw [hr1] at h2
    by_cases g : (fieldsB s)[0].f0 = 35
    · exact g
    · exact absurd (.inr g) h2
  refine ⟨rfl, rfl, h0, h35, ?_⟩
  show valsOf (fieldsB s) 35 = _
  unfold valsOf
  match hl : fieldsB s, h0, h35 with
  | x :: r, _, h35 => rw [List.find?_cons_of_pos (p := fun z : S78 => z.f0 == 35) (by simpa using h35)]; rfl
def flatT (r : TellV × Int × Int) : Int × ByteArray × ByteArray × Int × Int × Int × Int × Int × Int × Int × Int × Int := (r.1.f0, r.1.f1, r.1.f2, r.1.f3, r.1.f4, r.1.f5, r.1.f6, r.1.f7, r.1.f8, r.1.f9, r.2.1, r.2.2)
end Go.Proofs.YtgfigkfcmkdjdaaDoor.B
end
section
namespace Go.Proofs.YtgfigkfcmkdjdaaDoor.B
open Go.RowKit Go.Proofs.YtgfigkfcmkdjdaaDoorW.PrintWords Go.Proofs.YtgfigkfcmkdjdaaDoorW.PrintLast Go.Proofs.YtgfigkfcmkdjdaaDoorW.PrintMore
attribute [local go_sem] max2_int min2_int max_two min_two max_three min_three max_four min_four   -- for this text's walks alone
set_option linter.unusedVariables false
set_option linter.unusedSimpArgs false
theorem drop_cons_n (s : ByteArray) (pos : Nat) (h : pos < s.size) : s.data.toList.drop pos = s[pos]'h :: s.data.toList.drop (pos + 1) := by
  rw [List.drop_eq_getElem_cons (by rw [size_list]; exact h)]; rfl
def NoIs (r : Nat × Nat) (w : World) (e : Ending) (w' : World) : Prop := e = .returned (.tuple #[.int .i64 (r.1 : Int), .int .i64 (r.2 : Int)]) ∧ Below w.heap.size w w'
theorem NoIs.mk_ {r : Nat × Nat} {w w' : World} {a b : Nat} (h : (a, b) = r) (hw : Below w.heap.size w w') : NoIs r w (.returned (.tuple #[.int .i64 (a : Int), .int .i64 (b : Int)])) w' := by
  subst h; exact ⟨rfl, hw⟩
set_option maxRecDepth 100000 in
set_option maxHeartbeats 2000000 in
theorem body_Number_walk (s : ByteArray) (w : World) (hs : s.size ≤ 140737488351232) :
    Calls Tryd.prog 107 #[.string s] w (NoIs (numP s.data.toList) w) := by
  have hsl : s.data.toList.length = s.size := rfl
  by_cases c1 : s.size = 0
  · have hnil : s.data.toList = [] := List.eq_nil_of_length_eq_zero (by omega)
    have HF := Aside0.mk (show ((0 : Nat), (112 : Nat)) = numP s.data.toList by unfold numP; rw [if_pos (.inl hnil)])
    have e1 : (s.toList == ([] : List UInt8)) = true := by rw [ByteArray.toList_eq, hnil]; rfl
    clear hnil hsl
    go_enter Tryd.func107, Tryd.ntmps107
    go_wp2
    go_ret2
    exact NoIs.mk_ HF.out (Below.refl _ _)
  · have hne : ¬ s.data.toList = [] := fun e => by rw [e] at hsl; simp at hsl; omega
    have e1 : (s.toList == ([] : List UInt8)) = false := by rw [ByteArray.toList_eq, beq_eq_false_iff_ne]; exact hne
    have hlt : (0 : Int) < (s.size : Int) := by omega
    have hx0 : s.data.toList.getD 0 0 = s[0]'(by omega) := by
      rw [List.getD_eq_getElem?_getD, List.getElem?_eq_getElem (by omega)]; rfl
    have hlt2 : 0 < s.size := by omega
    by_cases c2 : s.data.toList.getD 0 0 = 48 ∧ 1 < s.data.toList.length
    · have HF := Aside0.mk (show ((0 : Nat), (112 : Nat)) = numP s.data.toList by unfold numP; rw [if_pos (.inr c2)])
      have hb0 : (s[0]'hlt2).toNat = 48 := by rw [← hx0, c2.1]; rfl
      have e3 : decide ((1 : Int) < (s.size : Int)) = true := by rw [decide_eq_true_eq]; omega
      have e4 : decide (1 < s.size) = true := by rw [decide_eq_true_eq]; omega
      clear hne hsl c2 hx0
      go_enter Tryd.func107, Tryd.ntmps107
      go_wp2
      go_ret2
      exact NoIs.mk_ HF.out (Below.refl _ _)
    · have HN := Aside0.mk (show numP s.data.toList = noP s.data.toList 0 by unfold numP; rw [if_neg (fun e => e.elim hne c2)])
      have hcase : (((s[0]'hlt2).toNat : Int) == 48) = false ∨ ((((s[0]'hlt2).toNat : Int) == 48) = true ∧ decide ((1 : Int) < (s.size : Int)) = false ∧ decide (1 < s.size) = false) := by
        by_cases g : s.data.toList.getD 0 0 = 48
        · right
          rw [hx0] at g
          refine ⟨by rw [g]; rfl, ?_, ?_⟩ <;> rw [decide_eq_false_iff_not] <;> (intro k; exact c2 ⟨by rw [hx0]; exact g, by omega⟩)
        · left
          rw [beq_eq_false_iff_ne]
          intro k
          exact g (by rw [hx0]; exact u8_ext (by show _ = 48; omega))
      clear hne hsl c2 hx0
      rcases hcase with e2 | ⟨e2, e3, e4⟩
      all_goals
        go_enter Tryd.func107, Tryd.ntmps107
        go_wp2
        go_loopw [4] (fun t w' => ∃ pos n : Nat, w' = w.iter s pos ∧ t = .int .i64 (n : Int) ∧ pos ≤ s.size ∧ n ≤ 9223372036854775807 ∧ Aside0 (noP (s.data.toList.drop pos) n = noP s.data.toList 0)) (fun _ w' => s.size - w'.iterPos w.heap.size)
        case atStart => exact ⟨0, 0, rfl, rfl, Nat.zero_le _, by omega, ⟨rfl⟩⟩
        case round =>
          obtain ⟨pos, n, rfl, rfl, hpos, hn, hA⟩ := hrel
          clear e1 e2 hlt
          have hBel : Aside0 (∀ p, Below w.heap.size w (w.iter s p)) := ⟨fun p => (Below.refl _ _).alloc (Nat.le_refl _) _⟩
          by_cases hp : pos < s.size
          · have hcons := drop_cons_n s pos hp
            by_cases ha : (s[pos]'hp).toNat < 128
            · have hnx : ∀ ty, (Instr.next (.pointer (some ⟨w.heap.size, 0, none⟩)) true ty).run Tryd.prog (w.iter s pos) = _ := fun ty => run_next_ascii w s pos ty hp ha
              rw [hcons] at hA
              clear hcons
              generalize s[pos]'hp = b at *
              have hb48 : isDig b ↔ 48 ≤ b.toNat ∧ b.toNat ≤ 57 := Iff.rfl
              generalize hN : b.toNat = c at *
              by_cases g1 : c < 48
              · have HF := Aside0.mk (hA.out.symm.trans (noP_bad b _ n (by rw [hb48]; omega)))
                have t1 : decide ((c : Int) < 48) = true := by rw [decide_eq_true_eq]; omega
                have t2 : decide (c < 48) = true := by rw [decide_eq_true_eq]; omega
                clear hA hb48 hN g1
                go_wp2
                go_ret2
                exact NoIs.mk_ (a := 0) (b := 112) (by rw [HN.out]; exact HF.out.symm) (hBel.out _)
              have t1 : decide ((c : Int) < 48) = false := by rw [decide_eq_false_iff_not]; omega
              have t2 : decide (c < 48) = false := by rw [decide_eq_false_iff_not]; omega
              by_cases g2 : 57 < c
              · have HF := Aside0.mk (hA.out.symm.trans (noP_bad b _ n (by rw [hb48]; omega)))
                have t3 : decide ((57 : Int) < (c : Int)) = true := by rw [decide_eq_true_eq]; omega
                have t4 : decide (57 < c) = true := by rw [decide_eq_true_eq]; omega
                clear hA hb48 hN g1 g2
                go_wp2
                go_ret2
                exact NoIs.mk_ (a := 0) (b := 112) (by rw [HN.out]; exact HF.out.symm) (hBel.out _)
              have t3 : decide ((57 : Int) < (c : Int)) = false := by rw [decide_eq_false_iff_not]; omega
              have t4 : decide (57 < c) = false := by rw [decide_eq_false_iff_not]; omega
              have hdig : isDig b := hb48.2 ⟨by omega, by omega⟩
              have k1 : wrap32 ((c : Int) - 48) = (c : Int) - 48 := by unfold wrap32; omega
              have k2 : wrap64 ((c : Int) - 48) = (c : Int) - 48 := by unfold wrap64; omega
              have k3 : wrap64 (9223372036854775807 - ((c : Int) - 48)) = 9223372036854775807 - ((c : Int) - 48) := by unfold wrap64; omega
              have k4 : Int.tdiv (9223372036854775807 - ((c : Int) - 48)) 10 = (9223372036854775807 - ((c : Int) - 48)) / 10 := Int.tdiv_eq_ediv_of_nonneg (by omega)
              by_cases g3 : 9223372036854775807 < 10 * n + (c - 48)
              · have HF := Aside0.mk (hA.out.symm.trans (noP_big b _ n hdig (by rw [hN]; exact g3)))
                have t5 : decide ((9223372036854775807 - ((c : Int) - 48)) / 10 < (n : Int)) = true := by rw [decide_eq_true_eq]; omega
                clear hA hb48 hN g1 g2 g3 hdig
                go_wp2
                go_ret2
                exact NoIs.mk_ (a := 0) (b := 112) (by rw [HN.out]; exact HF.out.symm) (hBel.out _)
              · have HA2 := Aside0.mk ((noP_go b (s.data.toList.drop (pos + 1)) n hdig (by rw [hN]; exact g3)).symm.trans hA.out)
                rw [hN] at HA2
                have t5 : decide ((9223372036854775807 - ((c : Int) - 48)) / 10 < (n : Int)) = false := by rw [decide_eq_false_iff_not]; omega
                have k5 : wrap64 (10 * (n : Int)) = 10 * (n : Int) := by unfold wrap64; omega
                have k6 : wrap64 (10 * (n : Int) + ((c : Int) - 48)) = 10 * (n : Int) + ((c : Int) - 48) := by unfold wrap64; omega
                have hv : ((10 * n + (c - 48) : Nat) : Int) = 10 * (n : Int) + ((c : Int) - 48) := by omega
                have HV := Aside0.mk (And.intro hv (show 10 * n + (c - 48) ≤ 9223372036854775807 by omega))
                clear hA hb48 hN g1 g2 g3 hdig hv
                go_wp2
                go_roundw
                case rel => exact ⟨pos + 1, 10 * n + (c - 48), rfl, by have := HV.out.1; simp only [Value.int.injEq, true_and]; omega, hp, HV.out.2, HA2⟩
                case measure => simp; omega
            · have hnx : ∀ ty, (Instr.next (.pointer (some ⟨w.heap.size, 0, none⟩)) true ty).run Tryd.prog (w.iter s pos) = _ := fun ty => run_next_any w s pos ty hp
              have hh := (decode_high s pos hp (by omega)).1
              have hle := decode_le s pos
              rw [hcons] at hA
              have HF := Aside0.mk (hA.out.symm.trans (noP_bad (s[pos]'hp) _ n (by unfold isDig; omega)))
              clear hA hcons ha
              generalize (Utf8.decode s pos).1 = r at *
              generalize (Utf8.decode s pos).2 = wd at *
              have t1 : decide ((r : Int) < 48) = false := by rw [decide_eq_false_iff_not]; omega
              have t2 : decide (r < 48) = false := by rw [decide_eq_false_iff_not]; omega
              have t3 : decide ((57 : Int) < (r : Int)) = true := by rw [decide_eq_true_eq]; omega
              have t4 : decide (57 < r) = true := by rw [decide_eq_true_eq]; omega
              go_wp2
              go_ret2
              exact NoIs.mk_ (a := 0) (b := 112) (by rw [HN.out]; exact HF.out.symm) (hBel.out _)
          · have hnx : ∀ ty, (Instr.next (.pointer (some ⟨w.heap.size, 0, none⟩)) true ty).run Tryd.prog (w.iter s pos) = _ := fun ty => run_next_end w s pos ty hp
            have HF := Aside0.mk ((show noP (s.data.toList.drop pos) n = (n, 0) by rw [List.drop_eq_nil_of_le (by rw [size_list]; omega)]; rfl).symm.trans hA.out)
            clear hA
            go_wp2
            go_ret2
            exact NoIs.mk_ (a := n) (b := 0) (by rw [HN.out]; exact HF.out) (hBel.out _)
end Go.Proofs.YtgfigkfcmkdjdaaDoor.B
end
section
namespace Go.Proofs.YtgfigkfcmkdjdaaDoor.B
open Go.RowKit Go.Proofs.YtgfigkfcmkdjdaaDoorW.PrintWords Go.Proofs.YtgfigkfcmkdjdaaDoorW.PrintLast Go.Proofs.YtgfigkfcmkdjdaaDoorW.PrintMore
attribute [local go_sem] max2_int min2_int max_two min_two max_three min_three max_four min_four   -- for this text's walks alone
set_option linter.unusedVariables false
set_option linter.unusedSimpArgs false
set_option maxRecDepth 100000 in
theorem int_closure (b0 b1 : Nat) (low high : Int) (s : ByteArray) (W : World) (hs : s.size ≤ 140737488351232) (h0 : W.cell? ⟨b0, 0, none⟩ = some (.int .i64 low)) (h1 : W.cell? ⟨b1, 0, none⟩ = some (.int .i64 high)) :
    Calls Tryd.prog 106 (#[.string s] ++ #[.pointer (some ⟨b0, 0, none⟩), .pointer (some ⟨b1, 0, none⟩)]) W fun e w' => e = .returned (.tuple #[.int .i64 (takeInt s low high).1, .int .i64 (takeInt s low high).2]) ∧ Below W.heap.size W w' := by
  have HN := Aside0.mk (body_Number_walk s W hs)
  have l0 := World.block_lt_of_cell? W _ h0
  have l1 := World.block_lt_of_cell? W _ h1
  unfold takeInt
  generalize hr : numP s.data.toList = r at *
  obtain ⟨n, e⟩ := r
  go_enter Tryd.func106, Tryd.ntmps106
  go_wp2_with (go_at_call 107; refine HN.out.mono ?_; rintro en w1 ⟨rfl, hb⟩; have h0' := (hb.cell (p := ⟨b0, 0, none⟩) l0).trans h0; have h1' := (hb.cell (p := ⟨b1, 0, none⟩) l1).trans h1)
  all_goals go_ret2
  all_goals exact ⟨rfl, hb⟩
set_option maxRecDepth 100000 in
set_option maxHeartbeats 4000000 in
theorem ask_int (g : Nat) (p : PlS) (F : FormS) (k : Nat) (w : World) (h : FormIs g p F k w) (hk : k < 9223372036854775807) (hv : ∀ x s, F.vals x = some s → s.size ≤ 140737488351232) (t low high : Int) (ht : i64ok t) (b0 b1 : Nat)
    (h0 : w.cell? ⟨b0, 0, none⟩ = some (.int .i64 low)) (h1 : w.cell? ⟨b1, 0, none⟩ = some (.int .i64 high)) (n0 : ¬ FormB g p b0) (n1 : ¬ FormB g p b1) :
    Calls Tryd.prog 105 #[.pointer (some ⟨g, 0, none⟩), .int .i64 t, .func (.func 106) #[] #[.pointer (some ⟨b0, 0, none⟩), .pointer (some ⟨b1, 0, none⟩)]] w fun e w' =>
      e = .returned (.int .i64 (askL (fun s => takeInt s low high) 0 F t).1) ∧ FormIs g p (askL (fun s => takeInt s low high) 0 F t).2 (k + 1) w' ∧ Turned (FormB g p) w w' := by
  have hc1 := h.c1
  have hc2 := h.c2
  have hc4 := h.c4
  have HF := Aside0.mk h
  have HIs := Aside0.mk (form_is g p F k w h)
  by_cases he : F.e = 0
  · have t1 : (F.e != 0) = false := by rw [he]; rfl
    obtain ⟨w1, hrun, hAs, hgr⟩ := h.asked.put t ht hk
    have HF1 : Aside0 (FormIs g p (F.mark t) (k + 1) w1) := ⟨h.ask hAs hgr⟩
    have HT : Aside0 (Turned (FormB g p) w w1) := ⟨Turned.of_grown hgr (.inr rfl)⟩
    have HH := Aside0.mk (form_has g p _ _ w1 HF1.out t ht)
    have h0' := HT.out.cell h0 n0
    have h1' := HT.out.cell h1 n1
    have hc11 := HF1.out.c1
    have hlk := HF1.out.vals.look t ht
    clear hgr hAs h0 h1
    have hc31 := HF1.out.c3
    have hc41 := HF1.out.c4
    have hl31 := HF1.out.l3
    have hl41 := HF1.out.l4
    rw [show (F.mark t).vals t = F.vals t from rfl] at HH hlk
    cases hvt : F.vals t with
    | none =>
      have HA := Aside0.mk (askL_none (fun s => takeInt s low high) 0 F t he hvt)
      rw [hvt] at HH hlk
      have HE := Aside0.mk (HF1.out.fail t 110)
      have HT2 : Aside0 (Turned (FormB g p) w ((w1.setCell ⟨g, 3, none⟩ (.int .i64 t)).setCell ⟨g, 4, none⟩ (.int .i64 110))) := ⟨(HT.out.setCell (p := ⟨g, 3, none⟩) (.inl rfl) _).setCell (p := ⟨g, 4, none⟩) (.inl rfl) _⟩
      simp only [Option.isSome_none] at HH
      clear hlk
      go_enter Tryd.func105, Tryd.ntmps105
      go_wp2_with (first | (go_at_call 102; refine HIs.out.mono ?_; rintro e w' ⟨rfl, hh⟩; obtain rfl : w = w' := hh.symm) | (go_at_call 101; refine HH.out.mono ?_; rintro e w' ⟨rfl, hh⟩; obtain rfl : w1 = w' := hh.symm))
      go_ret
      rw [HA.out]
      exact ⟨rfl, HE.out, HT2.out⟩
    | some s =>
      have HA := Aside0.mk (askL_some (fun s => takeInt s low high) 0 F t he hvt)
      rw [hvt] at HH hlk
      simp only [Option.isSome_some, Option.getD_some] at HH hlk
      have HC := Aside0.mk (int_closure b0 b1 low high s w1 (hv t s hvt) h0' h1')
      try simp only at HA
      generalize hr : takeInt s low high = r at *
      obtain ⟨n, e⟩ := r
      try simp only at HA HC
      clear hr h0' h1'
      have HR : Aside0 (∀ w2, Below w1.heap.size w1 w2 → FormIs g p (F.mark t) (k + 1) w2 ∧ Turned (FormB g p) w w2) := ⟨fun w2 hb => ⟨HF1.out.below hb, HT.out.trans (Turned.of_below hb)⟩⟩
      have HE : Aside0 (∀ w2, FormIs g p (F.mark t) (k + 1) w2 → Turned (FormB g p) w w2 → FormIs g p ((F.mark t).fail t e) (k + 1) ((w2.setCell ⟨g, 3, none⟩ (.int .i64 t)).setCell ⟨g, 4, none⟩ (.int .i64 e)) ∧ Turned (FormB g p) w ((w2.setCell ⟨g, 3, none⟩ (.int .i64 t)).setCell ⟨g, 4, none⟩ (.int .i64 e))) := ⟨fun w2 h2 ht2 => ⟨h2.fail t e, (ht2.setCell (p := ⟨g, 3, none⟩) (.inl rfl) _).setCell (p := ⟨g, 4, none⟩) (.inl rfl) _⟩⟩
      by_cases ce : e = 0
      · have HA2 : Aside0 (askL (fun s => takeInt s low high) 0 F t = (n, F.mark t)) := ⟨HA.out.trans (if_pos ce)⟩
        have t2 : (e == 0) = true := by rw [ce]; rfl
        clear HA
        go_enter Tryd.func105, Tryd.ntmps105
        go_wp2_with (first | (go_at_call 102; refine HIs.out.mono ?_; rintro e w' ⟨rfl, hh⟩; obtain rfl : w = w' := hh.symm) | (go_at_call 101; refine HH.out.mono ?_; rintro e w' ⟨rfl, hh⟩; obtain rfl : w1 = w' := hh.symm) | (go_at_call 106; refine HC.out.mono ?_; rintro en w2 ⟨rfl, hb⟩; have HR2 := Aside0.mk (HR.out w2 hb); have hc32 := HR2.out.1.c3; have hc42 := HR2.out.1.c4; have hl32 := HR2.out.1.l3; have hl42 := HR2.out.1.l4; clear hb))
        go_ret
        rw [HA2.out]
        exact ⟨rfl, HR2.out.1, HR2.out.2⟩
      · have HA2 : Aside0 (askL (fun s => takeInt s low high) 0 F t = (0, (F.mark t).fail t e)) := ⟨HA.out.trans (if_neg ce)⟩
        have t2 : (e == 0) = false := by rw [beq_eq_false_iff_ne]; exact ce
        clear HA
        go_enter Tryd.func105, Tryd.ntmps105
        go_wp2_with (first | (go_at_call 102; refine HIs.out.mono ?_; rintro e w' ⟨rfl, hh⟩; obtain rfl : w = w' := hh.symm) | (go_at_call 101; refine HH.out.mono ?_; rintro e w' ⟨rfl, hh⟩; obtain rfl : w1 = w' := hh.symm) | (go_at_call 106; refine HC.out.mono ?_; rintro en w2 ⟨rfl, hb⟩; have HR2 := Aside0.mk (HR.out w2 hb); have hc32 := HR2.out.1.c3; have hc42 := HR2.out.1.c4; have hl32 := HR2.out.1.l3; have hl42 := HR2.out.1.l4; clear hb))
        go_ret
        rw [HA2.out]
        exact ⟨rfl, (HE.out w2 HR2.out.1 HR2.out.2).1, (HE.out w2 HR2.out.1 HR2.out.2).2⟩
  · have HA : Aside0 (askL (fun s => takeInt s low high) 0 F t = (0, F)) := ⟨askL_off _ _ _ _ he⟩
    have t1 : (F.e != 0) = true := by rw [bne_iff_ne]; exact he
    go_enter Tryd.func105, Tryd.ntmps105
    go_wp2_with (go_at_call 102; refine HIs.out.mono ?_; rintro e w' ⟨rfl, hh⟩; obtain rfl : w = w' := hh.symm)
    go_ret
    rw [HA.out]
    exact ⟨rfl, HF.out.mono (by omega), Turned.refl _ _⟩
set_option maxRecDepth 100000 in
set_option maxHeartbeats 4000000 in
theorem form_int (g : Nat) (p : PlS) (F : FormS) (k : Nat) (w : World) (h : FormIs g p F k w) (hk : k < 9223372036854775807) (hv : ∀ x s, F.vals x = some s → s.size ≤ 140737488351232) (t low high : Int) (ht : i64ok t) (ha : p.a < w.heap.size) :
    Calls Tryd.prog 61 #[.pointer (some ⟨g, 0, none⟩), .int .i64 t, .int .i64 low, .int .i64 high] w fun e w' =>
      e = .returned (.int .i64 (askL (fun s => takeInt s low high) 0 F t).1) ∧ FormIs g p (askL (fun s => takeInt s low high) 0 F t).2 (k + 1) w' ∧ Turned (FormB g p) w w' := by
  have hg := h.lt
  have HB : Aside0 (Below w.heap.size w ((w.alloc (.cells #[.int .i64 low] 3)).alloc (.cells #[.int .i64 high] 3))) := ⟨((Below.refl _ _).alloc (Nat.le_refl _) _).alloc (by simp) _⟩
  have HF := Aside0.mk (h.below HB.out)
  have HAk := Aside0.mk (ask_int g p F k _ HF.out hk hv t low high ht w.heap.size (w.heap.size + 1) (by simp [go_sem]) (by simp [go_sem]) (fun e => by rcases e with e | e <;> omega) (fun e => by rcases e with e | e <;> omega))
  have hmf : ∀ (fn : Fn) (first cap : Array Value) (w : World), (Instr.makeFunc fn first cap).run Tryd.prog w = .ok (.func fn first cap) w := fun _ _ _ _ => rfl
  go_enter Tryd.func61, Tryd.ntmps61
  go_wp2_with (go_at_call 105; refine HAk.out.mono ?_; rintro e w' ⟨rfl, h1, h2⟩)
  go_ret
  exact ⟨rfl, h1, (Turned.of_below HB.out).trans h2⟩
end Go.Proofs.YtgfigkfcmkdjdaaDoor.B
end
section
namespace Go.Proofs.YtgfigkfcmkdjdaaDoor.B
open Go.RowKit Go.Proofs.YtgfigkfcmkdjdaaDoorW.PrintWords Go.Proofs.YtgfigkfcmkdjdaaDoorW.PrintLast Go.Proofs.YtgfigkfcmkdjdaaDoorW.PrintMore
attribute [local go_sem] max2_int min2_int max_two min_two max_three min_three max_four min_four   -- for this text's walks alone
set_option linter.unusedVariables false
set_option linter.unusedSimpArgs false
theorem askL_vals {α : Type} (take : ByteArray → α × Int) (z : α) (F : FormS) (t : Int) : (askL take z F t).2.vals = F.vals := by
  unfold askL
  split
  · rfl
  · split
    · rfl
    · split <;> rfl
theorem askL_order {α : Type} (take : ByteArray → α × Int) (z : α) (F : FormS) (t : Int) : (askL take z F t).2.order = F.order := by
  unfold askL
  split
  · rfl
  · split
    · rfl
    · split <;> rfl
theorem Turned.imp {S S' : Nat → Prop} {w w' : World} (h : Turned S w w') (hs : ∀ k, S k → S' k) : Turned S' w w' := ⟨h.os, h.tape, h.output, h.size, fun k hk hn => h.block k hk (fun e => hn (hs k e))⟩
structure PrgBox (w : World) (g : Nat) (p : PlS) (L : List S78) (b : Nat) (T : TypeId) (F : FormS) (k : Nat) (cs : Array Value) (W : World) : Prop where
  form : FormIs g p F k W
  vals : F.vals = valsOf L
  box : W.heap[b]? = some (.cells cs T (0, 0))
  low : Below w.heap.size w W
  wb : w.heap.size ≤ b
  wg : w.heap.size ≤ g
  wa : w.heap.size ≤ p.a
  bg : b ≠ g
  ba : b ≠ p.a
  bv : b ≠ p.v
  bo : ∀ a, p.A = some a → a.block ≠ b
section
variable {w : World} {g : Nat} {p : PlS} {L : List S78} {b : Nat} {T : TypeId} {F F' : FormS} {k k' : Nat} {cs : Array Value} {W W' : World}
theorem PrgBox.call (h : PrgBox w g p L b T F k cs W) (hf : FormIs g p F' k' W') (hv : F'.vals = F.vals) (ht : Turned (FormB g p) W W') : PrgBox w g p L b T F' k' cs W' :=
  ⟨hf, hv.trans h.vals, (ht.block b (blk_lt h.box) (fun e => e.elim h.bg h.ba)).trans h.box, h.low.trans (ht.below (fun j hj => hj.elim (fun e => e ▸ h.wg) (fun e => e ▸ h.wa)) h.low.size), h.wb, h.wg, h.wa, h.bg, h.ba, h.bv, h.bo⟩
theorem PrgBox.below (h : PrgBox w g p L b T F k cs W) (hb : Below W.heap.size W W') : PrgBox w g p L b T F k cs W' :=
  ⟨h.form.below hb, h.vals, blk_below h.box hb, h.low.trans (hb.mono h.low.size), h.wb, h.wg, h.wa, h.bg, h.ba, h.bv, h.bo⟩
theorem PrgBox.set (h : PrgBox w g p L b T F k cs W) (j : Nat) (v : Value) : PrgBox w g p L b T F k (cs.setIfInBounds j v) (W.setCell ⟨b, j, none⟩ v) :=
  ⟨h.form.turned (S := fun x => x = b) (Turned.setCell (S := fun x => x = b) (Turned.refl _ _) (p := ⟨b, j, none⟩) rfl _) (fun e => h.bg e.symm) (fun e => h.ba e.symm) (fun e => h.bv e.symm) (fun a ha => h.bo a ha), h.vals, blk_set h.box j v, h.low.setCell h.wb _, h.wb, h.wg, h.wa, h.bg, h.ba, h.bv, h.bo⟩
theorem PrgBox.name (h : PrgBox w g p L b T F k cs W) {t : Int} {v : ByteArray} (E : askL takeName ⟨#[]⟩ F t = (v, F')) (ht : i64ok t) (hk : k ≤ 1000) (hz : ∀ y ∈ L, y.f1.size ≤ 512) :
    Calls Tryd.prog 60 #[.pointer (some ⟨g, 0, none⟩), .int .i64 t] W fun e w' => e = .returned (.string v) ∧ PrgBox w g p L b T F' (k + 1) cs w' ∧ Turned (FormB g p) W w' := by
  have h1 := form_name g p F k W h.form (by omega) (fun x s hx => by
    rw [h.vals] at hx
    obtain ⟨y, hy, _, rfl⟩ := valsOf_mem _ _ _ hx
    have := hz y hy
    omega) t ht
  have hv := askL_vals takeName ⟨#[]⟩ F t
  rw [E] at h1 hv
  exact h1.mono fun e w' hh => ⟨hh.1, h.call hh.2.1 hv hh.2.2, hh.2.2⟩
theorem PrgBox.int (h : PrgBox w g p L b T F k cs W) {t low high : Int} {v : Int} (E : askL (fun s => takeInt s low high) 0 F t = (v, F')) (ht : i64ok t) (hk : k ≤ 1000) (hz : ∀ y ∈ L, y.f1.size ≤ 512) :
    Calls Tryd.prog 61 #[.pointer (some ⟨g, 0, none⟩), .int .i64 t, .int .i64 low, .int .i64 high] W fun e w' => e = .returned (.int .i64 v) ∧ PrgBox w g p L b T F' (k + 1) cs w' ∧ Turned (FormB g p) W w' := by
  have h1 := form_int g p F k W h.form (by omega) (fun x s hx => by
    rw [h.vals] at hx
    obtain ⟨y, hy, _, rfl⟩ := valsOf_mem _ _ _ hx
    have := hz y hy
    omega) t low high ht h.form.alt
  have hv := askL_vals (fun s => takeInt s low high) 0 F t
  rw [E] at h1 hv
  exact h1.mono fun e w' hh => ⟨hh.1, h.call hh.2.1 hv hh.2.2, hh.2.2⟩
theorem PrgBox.kind (h : PrgBox w g p L b T F k cs W) (hk : k ≤ 1000) (he : F.e = 0) {s : ByteArray} (hs : (F.vals 35).getD ⟨#[]⟩ = s) :
    Calls Tryd.prog 59 #[.pointer (some ⟨g, 0, none⟩)] W fun e w' => e = .returned (.string s) ∧ PrgBox w g p L b T (F.mark 35) (k + 1) cs w' := by
  have h1 := form_kind g p F k W h.form (by omega)
  rw [hs] at h1
  exact h1.mono fun e w' hh => ⟨hh.1, h.call (F' := F.mark 35) (hh.2.2 he).1 rfl (hh.2.2 he).2⟩
theorem PrgBox.done (h : PrgBox w g p L b T F k cs W) (hl : F.order.length ≤ 1000) {t e0 : Int} (hd : doneL F = (t, e0)) :
    Calls Tryd.prog 62 #[.pointer (some ⟨g, 0, none⟩)] W fun e w' => e = .returned (.tuple #[.int .i64 t, .int .i64 e0]) ∧ PrgBox w g p L b T F k cs w' := by
  unfold doneL at hd
  by_cases he : F.e = 0
  · rw [if_neg (by simpa using he)] at hd
    have h1 := form_done_ok g p F k W h.form he (by omega)
    rw [hd] at h1
    exact h1.mono fun e w' hh => by
      obtain ⟨h2, rfl⟩ := hh
      exact ⟨h2, h⟩
  · rw [if_pos he] at hd
    have h1 := form_done_e g p F k W h.form he
    simp only [Prod.mk.injEq] at hd
    rw [hd.1, hd.2] at h1
    exact h1.mono fun e w' hh => by
      obtain ⟨h2, q, rfl⟩ := hh
      exact ⟨h2, h.below (pw_below_drewN (Below.refl _ _) q)⟩
end
theorem tell_name_0 (b : Nat) (w : World) : Calls Tryd.prog 48 #[.pointer (some ⟨b, 0, none⟩), .int .i64 0] w fun e w' => e = .returned (.pointer (some ⟨b, 1, none⟩)) ∧ w' = w := by
  go_enter Tryd.func48, Tryd.ntmps48
  go_wp2
  go_ret
  exact ⟨rfl, rfl⟩
theorem tell_name_1 (b : Nat) (w : World) : Calls Tryd.prog 48 #[.pointer (some ⟨b, 0, none⟩), .int .i64 1] w fun e w' => e = .returned (.pointer (some ⟨b, 2, none⟩)) ∧ w' = w := by
  go_enter Tryd.func48, Tryd.ntmps48
  go_wp2
  go_ret
  exact ⟨rfl, rfl⟩
theorem tell_name_n (b : Nat) (x : Int) (hx : 2 ≤ x) (w : World) : Calls Tryd.prog 48 #[.pointer (some ⟨b, 0, none⟩), .int .i64 x] w fun e w' => e = .returned (.pointer none) ∧ w' = w := by
  have t1 : (x == 0) = false := by rw [beq_eq_false_iff_ne]; omega
  have t2 : (x == 1) = false := by rw [beq_eq_false_iff_ne]; omega
  go_enter Tryd.func48, Tryd.ntmps48
  go_wp2
  go_ret
  exact ⟨rfl, rfl⟩
def offT (x : Int) : Nat := if x = 0 then 1 else if x = 1 then 2 else if x = 2 then 3 else if x = 3 then 4 else if x = 4 then 5 else if x = 5 then 6 else if x = 6 then 7 else if x = 7 then 8 else 9
theorem tell_number_x (b : Nat) (x : Int) (hx : 2 ≤ x ∧ x ≤ 10) (w : World) : Calls Tryd.prog 50 #[.pointer (some ⟨b, 0, none⟩), .int .i64 x] w fun e w' => e = .returned (.pointer (some ⟨b, offT x, none⟩)) ∧ w' = w := by
  rcases (show x = 2 ∨ x = 3 ∨ x = 4 ∨ x = 5 ∨ x = 6 ∨ x = 7 ∨ x = 8 ∨ x = 9 ∨ x = 10 by omega) with rfl | rfl | rfl | rfl | rfl | rfl | rfl | rfl | rfl
  all_goals
    go_enter Tryd.func50, Tryd.ntmps50
    go_wp2
    go_ret
    exact ⟨rfl, rfl⟩
def askOf (x : Int) : AskT :=
  if x = 0 then .name 11 else if x = 1 then .name 17 else if x = 2 then .int 39 0 9 else if x = 3 then .int 32 0 1099511627776 else if x = 4 then .int 31 0 1099511627776 else if x = 5 then .int 14 0 1099511627776
  else if x = 6 then .int 151 0 1099511627776 else if x = 7 then .int 371 0 99999 else if x = 8 then .int 103 0 999 else if x = 9 then .int 373 0 999 else .int 380 0 999
def ValT.val : ValT → Value
  | .s x => .string x
  | .n x => .int .i64 x
  | .l _ => .slice none 0 0
def runT : List Int → FormS → Array Value → Array Value × FormS
  | [], F, cs => (cs, F)
  | x :: r, F, cs => runT r (askT (askOf x) F).2 (cs.setIfInBounds (offT x) (askT (askOf x) F).1.val)
theorem runT_cons (x : Int) (r : List Int) (F : FormS) (cs : Array Value) : runT (x :: r) F cs = runT r (askT (askOf x) F).2 (cs.setIfInBounds (offT x) (askT (askOf x) F).1.val) := rfl
def slotsN : Nat → List Int
  | 1 => [0, 1, 2, 3, 4, 5, 6, 8]
  | 2 => [0, 2, 8]
  | 3 => [7, 9]
  | 4 => [7, 10]
  | _ => []
def tcells0 (n : Int) : Array Value := #[.int .i64 n, .string ⟨#[]⟩, .string ⟨#[]⟩, .int .i64 0, .int .i64 0, .int .i64 0, .int .i64 0, .int .i64 0, .int .i64 0, .int .i64 0]
set_option maxHeartbeats 4000000 in
theorem runT_1 (F : FormS) : runT (slotsN 1) F (tcells0 1) = (tellCells (tellOf 1 (asksT (tellSchema 1) F).1), (asksT (tellSchema 1) F).2) := by
  rfl
theorem runT_2 (F : FormS) : runT (slotsN 2) F (tcells0 2) = (tellCells (tellOf 2 (asksT (tellSchema 2) F).1), (asksT (tellSchema 2) F).2) := by
  rfl
theorem runT_3 (F : FormS) : runT (slotsN 3) F (tcells0 3) = (tellCells (tellOf 3 (asksT (tellSchema 3) F).1), (asksT (tellSchema 3) F).2) := by
  rfl
theorem runT_4 (F : FormS) : runT (slotsN 4) F (tcells0 4) = (tellCells (tellOf 4 (asksT (tellSchema 4) F).1), (asksT (tellSchema 4) F).2) := by
  rfl
theorem tellKind_le (v : ByteArray) : tellKind v ≤ 4 := by
  unfold tellKind
  by_cases c1 : v = ⟨#[56]⟩
  · rw [if_pos c1]; decide
  rw [if_neg c1]
  by_cases c2 : v = ⟨#[57]⟩
  · rw [if_pos c2]; decide
  rw [if_neg c2]
  by_cases c3 : v = ⟨#[51]⟩
  · rw [if_pos c3]; decide
  rw [if_neg c3]
  by_cases c4 : v = ⟨#[106]⟩
  · rw [if_pos c4]; decide
  rw [if_neg c4]; decide
theorem runT_k (k : Nat) (h1 : 1 ≤ k) (h4 : k ≤ 4) (F : FormS) : runT (slotsN k) F (tcells0 (k : Int)) = (tellCells (tellOf k (asksT (tellSchema k) F).1), (asksT (tellSchema k) F).2) := by
  rcases (show k = 1 ∨ k = 2 ∨ k = 3 ∨ k = 4 by omega) with rfl | rfl | rfl | rfl
  · exact runT_1 F
  · exact runT_2 F
  · exact runT_3 F
  · exact runT_4 F
theorem tell_slots_k (k : Nat) (h1 : 1 ≤ k) (h4 : k ≤ 4) : tell_slots.f (k : Int) = some (slotsN k) := by
  rcases (show k = 1 ∨ k = 2 ∨ k = 3 ∨ k = 4 by omega) with rfl | rfl | rfl | rfl <;> rfl
theorem slotsN_mem (k : Nat) : ∀ x ∈ slotsN k, 0 ≤ x ∧ x ≤ 10 := by
  intro x hx
  match k with
  | 0 => simp [slotsN] at hx
  | 1 => simp [slotsN] at hx; omega
  | 2 => simp [slotsN] at hx; omega
  | 3 => simp [slotsN] at hx; omega
  | 4 => simp [slotsN] at hx; omega
  | n + 5 => simp [slotsN] at hx
theorem slotsN_len (k : Nat) : (slotsN k).length ≤ 8 := by
  match k with
  | 0 => decide
  | 1 => decide
  | 2 => decide
  | 3 => decide
  | 4 => decide
  | n + 5 => show (0 : Nat) ≤ 8; decide
theorem word_kind (v : ByteArray) (i : Nat) (h1 : 1 ≤ i) (h4 : i ≤ 4) : ∃ r, tell_word.f (i : Int) = some r ∧ (r = v ↔ tellKind v = i) := by
  have key : ∀ (r : ByteArray), r = v → tellKind r = i → (r = v ↔ tellKind v = i) := fun r e h => ⟨fun _ => e ▸ h, fun _ => e⟩
  rcases (show i = 1 ∨ i = 2 ∨ i = 3 ∨ i = 4 by omega) with rfl | rfl | rfl | rfl
  · refine ⟨⟨#[56]⟩, rfl, ?_⟩
    by_cases e : v = ⟨#[56]⟩
    · subst e; exact ⟨fun _ => rfl, fun _ => rfl⟩
    · refine ⟨fun g => absurd g.symm e, fun g => ?_⟩
      unfold tellKind at g
      rw [if_neg e] at g
      repeat' split at g <;> first | omega | skip
  · refine ⟨⟨#[57]⟩, rfl, ?_⟩
    by_cases e : v = ⟨#[57]⟩
    · subst e; exact ⟨fun _ => rfl, fun _ => rfl⟩
    · refine ⟨fun g => absurd g.symm e, fun g => ?_⟩
      unfold tellKind at g
      rw [if_neg e] at g
      repeat' split at g <;> first | omega | skip
  · refine ⟨⟨#[51]⟩, rfl, ?_⟩
    by_cases e : v = ⟨#[51]⟩
    · subst e; exact ⟨fun _ => rfl, fun _ => rfl⟩
    · refine ⟨fun g => absurd g.symm e, fun g => ?_⟩
      unfold tellKind at g
      rw [if_neg e] at g
      repeat' split at g <;> first | omega | skip
  · refine ⟨⟨#[106]⟩, rfl, ?_⟩
    by_cases e : v = ⟨#[106]⟩
    · subst e; exact ⟨fun _ => rfl, fun _ => rfl⟩
    · refine ⟨fun g => absurd g.symm e, fun g => ?_⟩
      unfold tellKind at g
      rw [if_neg e] at g
      repeat' split at g <;> first | omega | skip
theorem askOf_name (x : Int) (h : x = 0 ∨ x = 1) : ∃ t j, askOf x = .name t ∧ tell_placeOf.f x = some (t, 0) ∧ offT x = j ∧ (j = 1 ∨ j = 2) ∧ i64ok t ∧ (∀ b w, Calls Tryd.prog 48 #[.pointer (some ⟨b, 0, none⟩), .int .i64 x] w fun e w' => e = .returned (.pointer (some ⟨b, j, none⟩)) ∧ w' = w) := by
  rcases h with rfl | rfl
  · exact ⟨11, 1, rfl, rfl, rfl, .inl rfl, i64ok_of (by decide) (by decide), fun b w => tell_name_0 b w⟩
  · exact ⟨17, 2, rfl, rfl, rfl, .inr rfl, i64ok_of (by decide) (by decide), fun b w => tell_name_1 b w⟩
theorem askOf_int (x : Int) (h : 2 ≤ x ∧ x ≤ 10) : ∃ t m, askOf x = .int t 0 m ∧ tell_placeOf.f x = some (t, m) ∧ 3 ≤ offT x ∧ offT x ≤ 9 ∧ i64ok t := by
  rcases (show x = 2 ∨ x = 3 ∨ x = 4 ∨ x = 5 ∨ x = 6 ∨ x = 7 ∨ x = 8 ∨ x = 9 ∨ x = 10 by omega) with rfl | rfl | rfl | rfl | rfl | rfl | rfl | rfl | rfl
  all_goals exact ⟨_, _, rfl, rfl, by decide, by decide, i64ok_of (by decide) (by decide)⟩
theorem blk_fill10 {W : World} {b : Nat} {T : TypeId} {a0 a1 a2 a3 a4 a5 a6 a7 a8 a9 : Value} (h : W.heap[b]? = some (.cells #[a0, a1, a2, a3, a4, a5, a6, a7, a8, a9] T (0, 0))) (v0 v1 v2 v3 v4 v5 v6 v7 v8 v9 : Value) :
    ((((((((((W.setCell ⟨b, 0, none⟩ v0).setCell ⟨b, 1, none⟩ v1).setCell ⟨b, 2, none⟩ v2).setCell ⟨b, 3, none⟩ v3).setCell ⟨b, 4, none⟩ v4).setCell ⟨b, 5, none⟩ v5).setCell ⟨b, 6, none⟩ v6).setCell ⟨b, 7, none⟩ v7).setCell ⟨b, 8, none⟩ v8).setCell ⟨b, 9, none⟩ v9).heap[b]? = some (.cells #[v0, v1, v2, v3, v4, v5, v6, v7, v8, v9] T (0, 0)) := by
  have h2 := (blk_set (blk_set (blk_set (blk_set (blk_set (blk_set (blk_set (blk_set (blk_set (blk_set h 0 v0) 1 v1) 2 v2) 3 v3) 4 v4) 5 v5) 6 v6) 7 v7) 8 v8) 9 v9)
  simp only [List.setIfInBounds_toArray, List.set_cons_zero, List.set_cons_succ] at h2
  exact h2
theorem low_fill10 {w W : World} (hl : Below w.heap.size w W) (v0 v1 v2 v3 v4 v5 v6 v7 v8 v9 : Value) : Below w.heap.size w ((((((((((W.setCell ⟨w.heap.size, 0, none⟩ v0).setCell ⟨w.heap.size, 1, none⟩ v1).setCell ⟨w.heap.size, 2, none⟩ v2).setCell ⟨w.heap.size, 3, none⟩ v3).setCell ⟨w.heap.size, 4, none⟩ v4).setCell ⟨w.heap.size, 5, none⟩ v5).setCell ⟨w.heap.size, 6, none⟩ v6).setCell ⟨w.heap.size, 7, none⟩ v7).setCell ⟨w.heap.size, 8, none⟩ v8).setCell ⟨w.heap.size, 9, none⟩ v9) := (low_set (low_set (low_set (low_set (low_set (low_set (low_set (low_set (low_set (low_set hl 0 v0) 1 v1) 2 v2) 3 v3) 4 v4) 5 v5) 6 v6) 7 v7) 8 v8) 9 v9)
end Go.Proofs.YtgfigkfcmkdjdaaDoor.B
end
