/- Each Go function that the laws of this seat reach, as a plain Lean function, and its contract: the machine's call does what that function says. -/
import Derived.Test.YtbkpkfbdpmjgoaaDoorQx0
import Derived.Test.YtbkpkfbdpmjgoaaDoorQx1
namespace Go.Proofs.YtbkpkfbdpmjgoaaDoor.Q
open Go.RowKit Go.Proofs.YtbkpkfbdpmjgoaaDoorW.PrintWords Go.Proofs.YtbkpkfbdpmjgoaaDoorW.PrintLast Go.Proofs.YtbkpkfbdpmjgoaaDoorW.PrintMore
attribute [local go_sem] max2_int min2_int max_two min_two max_three min_three max_four min_four   -- for this text's walks alone
set_option linter.unusedVariables false
set_option linter.unusedSimpArgs false

--PART
/-! ### body_Number: function 8 -/
theorem drop_cons_n (s : ByteArray) (pos : Nat) (h : pos < s.size) : s.data.toList.drop pos = s[pos]'h :: s.data.toList.drop (pos + 1) := by
  rw [List.drop_eq_getElem_cons (by rw [size_list]; exact h)]; rfl
def NoIs (r : Nat × Nat) (w : World) (e : Ending) (w' : World) : Prop := e = .returned (.tuple #[.int .i64 (r.1 : Int), .int .i64 (r.2 : Int)]) ∧ Below w.heap.size w w'
theorem NoIs.mk_ {r : Nat × Nat} {w w' : World} {a b : Nat} (h : (a, b) = r) (hw : Below w.heap.size w w') : NoIs r w (.returned (.tuple #[.int .i64 (a : Int), .int .i64 (b : Int)])) w' := by
  subst h; exact ⟨rfl, hw⟩
set_option maxRecDepth 100000 in
set_option maxHeartbeats 2000000 in
theorem body_Number_walk (s : ByteArray) (w : World) (hs : s.size ≤ 140737488351232) :
    Calls Tryd.prog 8 #[.string s] w (NoIs (numP s.data.toList) w) := by
  have hsl : s.data.toList.length = s.size := rfl
  by_cases c1 : s.size = 0
  · have hnil : s.data.toList = [] := List.eq_nil_of_length_eq_zero (by omega)
    have HF := Aside0.mk (show ((0 : Nat), (112 : Nat)) = numP s.data.toList by unfold numP; rw [if_pos (.inl hnil)])
    have e1 : (s.toList == ([] : List UInt8)) = true := by rw [ByteArray.toList_eq, hnil]; rfl
    clear hnil hsl
    go_enter Tryd.func8, Tryd.ntmps8
    go_wp2
    go_ret2
    exact NoIs.mk_ HF.out (Below.refl _ _)
  · have hne : ¬ s.data.toList = [] := fun e => by rw [e] at hsl; simp at hsl; omega
    have e1 : (s.toList == ([] : List UInt8)) = false := by rw [ByteArray.toList_eq, beq_eq_false_iff_ne]; exact hne
    have hlt : (0 : Int) < (s.size : Int) := by omega
    have hx0 : s.data.toList.getD 0 0 = s[0]'(by omega) := by
      rw [List.getD_eq_getElem?_getD, List.getElem?_eq_getElem (by omega)]; rfl
    have hlt2 : 0 < s.size := by omega
    by_cases c2 : s.data.toList.getD 0 0 = 48 ∧ 1 < s.data.toList.length
    · have HF := Aside0.mk (show ((0 : Nat), (112 : Nat)) = numP s.data.toList by unfold numP; rw [if_pos (.inr c2)])
      have hb0 : (s[0]'hlt2).toNat = 48 := by rw [← hx0, c2.1]; rfl
      have e3 : decide ((1 : Int) < (s.size : Int)) = true := by rw [decide_eq_true_eq]; omega
      have e4 : decide (1 < s.size) = true := by rw [decide_eq_true_eq]; omega
      clear hne hsl c2 hx0
      go_enter Tryd.func8, Tryd.ntmps8
      go_wp2
      go_ret2
      exact NoIs.mk_ HF.out (Below.refl _ _)
    · have HN := Aside0.mk (show numP s.data.toList = noP s.data.toList 0 by unfold numP; rw [if_neg (fun e => e.elim hne c2)])
      have hcase : (((s[0]'hlt2).toNat : Int) == 48) = false ∨ ((((s[0]'hlt2).toNat : Int) == 48) = true ∧ decide ((1 : Int) < (s.size : Int)) = false ∧ decide (1 < s.size) = false) := by
        by_cases g : s.data.toList.getD 0 0 = 48
        · right
          rw [hx0] at g
          refine ⟨by rw [g]; rfl, ?_, ?_⟩ <;> rw [decide_eq_false_iff_not] <;> (intro k; exact c2 ⟨by rw [hx0]; exact g, by omega⟩)
        · left
          rw [beq_eq_false_iff_ne]
          intro k
          exact g (by rw [hx0]; exact u8_ext (by show _ = 48; omega))
      clear hne hsl c2 hx0
      rcases hcase with e2 | ⟨e2, e3, e4⟩
      all_goals
        go_enter Tryd.func8, Tryd.ntmps8
        go_wp2
        go_loopw [4] (fun t w' => ∃ pos n : Nat, w' = w.iter s pos ∧ t = .int .i64 (n : Int) ∧ pos ≤ s.size ∧ n ≤ 9223372036854775807 ∧ Aside0 (noP (s.data.toList.drop pos) n = noP s.data.toList 0)) (fun _ w' => s.size - w'.iterPos w.heap.size)
        case atStart => exact ⟨0, 0, rfl, rfl, Nat.zero_le _, by omega, ⟨rfl⟩⟩
        case round =>
          obtain ⟨pos, n, rfl, rfl, hpos, hn, hA⟩ := hrel
          clear e1 e2 hlt
          have hBel : Aside0 (∀ p, Below w.heap.size w (w.iter s p)) := ⟨fun p => (Below.refl _ _).alloc (Nat.le_refl _) _⟩
          by_cases hp : pos < s.size
          · have hcons := drop_cons_n s pos hp
            by_cases ha : (s[pos]'hp).toNat < 128
            · have hnx : ∀ ty, (Instr.next (.pointer (some ⟨w.heap.size, 0, none⟩)) true ty).run Tryd.prog (w.iter s pos) = _ := fun ty => run_next_ascii w s pos ty hp ha
              rw [hcons] at hA
              clear hcons
              generalize s[pos]'hp = b at *
              have hb48 : isDig b ↔ 48 ≤ b.toNat ∧ b.toNat ≤ 57 := Iff.rfl
              generalize hN : b.toNat = c at *
              by_cases g1 : c < 48
              · have HF := Aside0.mk (hA.out.symm.trans (noP_bad b _ n (by rw [hb48]; omega)))
                have t1 : decide ((c : Int) < 48) = true := by rw [decide_eq_true_eq]; omega
                have t2 : decide (c < 48) = true := by rw [decide_eq_true_eq]; omega
                clear hA hb48 hN g1
                go_wp2
                go_ret2
                exact NoIs.mk_ (a := 0) (b := 112) (by rw [HN.out]; exact HF.out.symm) (hBel.out _)
              have t1 : decide ((c : Int) < 48) = false := by rw [decide_eq_false_iff_not]; omega
              have t2 : decide (c < 48) = false := by rw [decide_eq_false_iff_not]; omega
              by_cases g2 : 57 < c
              · have HF := Aside0.mk (hA.out.symm.trans (noP_bad b _ n (by rw [hb48]; omega)))
                have t3 : decide ((57 : Int) < (c : Int)) = true := by rw [decide_eq_true_eq]; omega
                have t4 : decide (57 < c) = true := by rw [decide_eq_true_eq]; omega
                clear hA hb48 hN g1 g2
                go_wp2
                go_ret2
                exact NoIs.mk_ (a := 0) (b := 112) (by rw [HN.out]; exact HF.out.symm) (hBel.out _)
              have t3 : decide ((57 : Int) < (c : Int)) = false := by rw [decide_eq_false_iff_not]; omega
              have t4 : decide (57 < c) = false := by rw [decide_eq_false_iff_not]; omega
              have hdig : isDig b := hb48.2 ⟨by omega, by omega⟩
              have k1 : wrap32 ((c : Int) - 48) = (c : Int) - 48 := by unfold wrap32; omega
              have k2 : wrap64 ((c : Int) - 48) = (c : Int) - 48 := by unfold wrap64; omega
              have k3 : wrap64 (9223372036854775807 - ((c : Int) - 48)) = 9223372036854775807 - ((c : Int) - 48) := by unfold wrap64; omega
              have k4 : Int.tdiv (9223372036854775807 - ((c : Int) - 48)) 10 = (9223372036854775807 - ((c : Int) - 48)) / 10 := Int.tdiv_eq_ediv_of_nonneg (by omega)
              by_cases g3 : 9223372036854775807 < 10 * n + (c - 48)
              · have HF := Aside0.mk (hA.out.symm.trans (noP_big b _ n hdig (by rw [hN]; exact g3)))
                have t5 : decide ((9223372036854775807 - ((c : Int) - 48)) / 10 < (n : Int)) = true := by rw [decide_eq_true_eq]; omega
                clear hA hb48 hN g1 g2 g3 hdig
                go_wp2
                go_ret2
                exact NoIs.mk_ (a := 0) (b := 112) (by rw [HN.out]; exact HF.out.symm) (hBel.out _)
              · have HA2 := Aside0.mk ((noP_go b (s.data.toList.drop (pos + 1)) n hdig (by rw [hN]; exact g3)).symm.trans hA.out)
                rw [hN] at HA2
                have t5 : decide ((9223372036854775807 - ((c : Int) - 48)) / 10 < (n : Int)) = false := by rw [decide_eq_false_iff_not]; omega
                have k5 : wrap64 (10 * (n : Int)) = 10 * (n : Int) := by unfold wrap64; omega
                have k6 : wrap64 (10 * (n : Int) + ((c : Int) - 48)) = 10 * (n : Int) + ((c : Int) - 48) := by unfold wrap64; omega
                have hv : ((10 * n + (c - 48) : Nat) : Int) = 10 * (n : Int) + ((c : Int) - 48) := by omega
                have HV := Aside0.mk (And.intro hv (show 10 * n + (c - 48) ≤ 9223372036854775807 by omega))
                clear hA hb48 hN g1 g2 g3 hdig hv
                go_wp2
                go_roundw
                case rel => exact ⟨pos + 1, 10 * n + (c - 48), rfl, by have := HV.out.1; simp only [Value.int.injEq, true_and]; omega, hp, HV.out.2, HA2⟩
                case measure => simp; omega
            · have hnx : ∀ ty, (Instr.next (.pointer (some ⟨w.heap.size, 0, none⟩)) true ty).run Tryd.prog (w.iter s pos) = _ := fun ty => run_next_any w s pos ty hp
              have hh := (decode_high s pos hp (by omega)).1
              have hle := decode_le s pos
              rw [hcons] at hA
              have HF := Aside0.mk (hA.out.symm.trans (noP_bad (s[pos]'hp) _ n (by unfold isDig; omega)))
              clear hA hcons ha
              generalize (Utf8.decode s pos).1 = r at *
              generalize (Utf8.decode s pos).2 = wd at *
              have t1 : decide ((r : Int) < 48) = false := by rw [decide_eq_false_iff_not]; omega
              have t2 : decide (r < 48) = false := by rw [decide_eq_false_iff_not]; omega
              have t3 : decide ((57 : Int) < (r : Int)) = true := by rw [decide_eq_true_eq]; omega
              have t4 : decide (57 < r) = true := by rw [decide_eq_true_eq]; omega
              go_wp2
              go_ret2
              exact NoIs.mk_ (a := 0) (b := 112) (by rw [HN.out]; exact HF.out.symm) (hBel.out _)
          · have hnx : ∀ ty, (Instr.next (.pointer (some ⟨w.heap.size, 0, none⟩)) true ty).run Tryd.prog (w.iter s pos) = _ := fun ty => run_next_end w s pos ty hp
            have HF := Aside0.mk ((show noP (s.data.toList.drop pos) n = (n, 0) by rw [List.drop_eq_nil_of_le (by rw [size_list]; omega)]; rfl).symm.trans hA.out)
            clear hA
            go_wp2
            go_ret2
            exact NoIs.mk_ (a := n) (b := 0) (by rw [HN.out]; exact HF.out) (hBel.out _)
def body_Number.f (a0 : ByteArray) : Option (Int × Int) := if a0.size ≤ 140737488351232 then some (((numP a0.data.toList).1 : Int), ((numP a0.data.toList).2 : Int)) else none
theorem body_Number.calls (a0 : ByteArray) (r1 r2 : Int) (w : World) (h : body_Number.f a0 = some (r1, r2)) :
    Calls Tryd.prog 8 #[.string a0] w fun e w' => e = .returned (.tuple #[.int .i64 r1, .int .i64 r2]) ∧ Below w.heap.size w w' := by
  unfold body_Number.f at h
  by_cases c : a0.size ≤ 140737488351232
  · rw [if_pos c] at h
    simp only [Option.some.injEq, Prod.mk.injEq] at h
    obtain ⟨rfl, rfl⟩ := h
    exact body_Number_walk a0 w c
  · rw [if_neg c] at h; cases h

end Go.Proofs.YtbkpkfbdpmjgoaaDoor.Q
