/- The functions that the law reaches, as plain Lean functions, and their contracts: texts merged. -/
import Derived.Laws.StructEq
import Derived.Test.YtbkpkfbdpmjgoaaDoorzBodyWhole2
import Derived.Test.YtbkpkfbdpmjgoaaDoorzBodyWhole0
import Derived.Test.YtbkpkfbdpmjgoaaDoorzBodyWhole1
import Derived.Test.YtbkpkfbdpmjgoaaDoorzBodyWhole3
import Derived.Test.YtbkpkfbdpmjgoaaDoorzBodyWhole4
import Derived.Test.YtbkpkfbdpmjgoaaDoorzBodyWhole5
import Derived.Test.YtbkpkfbdpmjgoaaDoorzBodyWhole6
section
namespace Go.Proofs.YtbkpkfbdpmjgoaaDoor.T
open Go.RowKit Go.Proofs.YtbkpkfbdpmjgoaaDoorW.PrintWords Go.Proofs.YtbkpkfbdpmjgoaaDoorW.PrintLast Go.Proofs.YtbkpkfbdpmjgoaaDoorW.PrintMore
attribute [local go_sem] max2_int min2_int max_two min_two max_three min_three max_four min_four   -- for this text's walks alone
set_option linter.unusedVariables false
set_option linter.unusedSimpArgs false
theorem drop_cons_n (s : ByteArray) (pos : Nat) (h : pos < s.size) : s.data.toList.drop pos = s[pos]'h :: s.data.toList.drop (pos + 1) := by
  rw [List.drop_eq_getElem_cons (by rw [size_list]; exact h)]; rfl
def NoIs (r : Nat × Nat) (w : World) (e : Ending) (w' : World) : Prop := e = .returned (.tuple #[.int .i64 (r.1 : Int), .int .i64 (r.2 : Int)]) ∧ Below w.heap.size w w'
theorem NoIs.mk_ {r : Nat × Nat} {w w' : World} {a b : Nat} (h : (a, b) = r) (hw : Below w.heap.size w w') : NoIs r w (.returned (.tuple #[.int .i64 (a : Int), .int .i64 (b : Int)])) w' := by
  subst h; exact ⟨rfl, hw⟩
set_option maxRecDepth 100000 in
set_option maxHeartbeats 2000000 in
theorem body_Number_walk (s : ByteArray) (w : World) (hs : s.size ≤ 140737488351232) :
    Calls Tryd.prog 8 #[.string s] w (NoIs (numP s.data.toList) w) := by
  have hsl : s.data.toList.length = s.size := rfl
  by_cases c1 : s.size = 0
  · have hnil : s.data.toList = [] := List.eq_nil_of_length_eq_zero (by omega)
    have HF := Aside0.mk (show ((0 : Nat), (112 : Nat)) = numP s.data.toList by unfold numP; rw [if_pos (.inl hnil)])
    have e1 : (s.toList == ([] : List UInt8)) = true := by rw [ByteArray.toList_eq, hnil]; rfl
    clear hnil hsl
    go_enter Tryd.func8, Tryd.ntmps8
    go_wp2
    go_ret2
    exact NoIs.mk_ HF.out (Below.refl _ _)
  · have hne : ¬ s.data.toList = [] := fun e => by rw [e] at hsl; simp at hsl; omega
    have e1 : (s.toList == ([] : List UInt8)) = false := by rw [ByteArray.toList_eq, beq_eq_false_iff_ne]; exact hne
    have hlt : (0 : Int) < (s.size : Int) := by omega
    have hx0 : s.data.toList.getD 0 0 = s[0]'(by omega) := by
      rw [List.getD_eq_getElem?_getD, List.getElem?_eq_getElem (by omega)]; rfl
    have hlt2 : 0 < s.size := by omega
    by_cases c2 : s.data.toList.getD 0 0 = 48 ∧ 1 < s.data.toList.length
    · have HF := Aside0.mk (show ((0 : Nat), (112 : Nat)) = numP s.data.toList by unfold numP; rw [if_pos (.inr c2)])
      have hb0 : (s[0]'hlt2).toNat = 48 := by rw [← hx0, c2.1]; rfl
      have e3 : decide ((1 : Int) < (s.size : Int)) = true := by rw [decide_eq_true_eq]; omega
      have e4 : decide (1 < s.size) = true := by rw [decide_eq_true_eq]; omega
      clear hne hsl c2 hx0
      go_enter Tryd.func8, Tryd.ntmps8
      go_wp2
      go_ret2
      exact NoIs.mk_ HF.out (Below.refl _ _)
    · have HN := Aside0.mk (show numP s.data.toList = noP s.data.toList 0 by unfold numP; rw [if_neg (fun e => e.elim hne c2)])
      have hcase : (((s[0]'hlt2).toNat : Int) == 48) = false ∨ ((((s[0]'hlt2).toNat : Int) == 48) = true ∧ decide ((1 : Int) < (s.size : Int)) = false ∧ decide (1 < s.size) = false) := by
        by_cases g : s.data.toList.getD 0 0 = 48
        · right
          rw [hx0] at g
          refine ⟨by rw [g]; rfl, ?_, ?_⟩ <;> rw [decide_eq_false_iff_not] <;> (intro k; exact c2 ⟨by rw [hx0]; exact g, by omega⟩)
        · left
          rw [beq_eq_false_iff_ne]
          intro k
          exact g (by rw [hx0]; exact u8_ext (by show _ = 48; omega))
      clear hne hsl c2 hx0
      rcases hcase with e2 | ⟨e2, e3, e4⟩
      all_goals
        go_enter Tryd.func8, Tryd.ntmps8
        go_wp2
        go_loopw [4] (fun t w' => ∃ pos n : Nat, w' = w.iter s pos ∧ t = .int .i64 (n : Int) ∧ pos ≤ s.size ∧ n ≤ 9223372036854775807 ∧ Aside0 (noP (s.data.toList.drop pos) n = noP s.data.toList 0)) (fun _ w' => s.size - w'.iterPos w.heap.size)
        case atStart => exact ⟨0, 0, rfl, rfl, Nat.zero_le _, by omega, ⟨rfl⟩⟩
        case round =>
          obtain ⟨pos, n, rfl, rfl, hpos, hn, hA⟩ := hrel
          clear e1 e2 hlt
          have hBel : Aside0 (∀ p, Below w.heap.size w (w.iter s p)) := ⟨fun p => (Below.refl _ _).alloc (Nat.le_refl _) _⟩
          by_cases hp : pos < s.size
          · have hcons := drop_cons_n s pos hp
            by_cases ha : (s[pos]'hp).toNat < 128
            · have hnx : ∀ ty, (Instr.next (.pointer (some ⟨w.heap.size, 0, none⟩)) true ty).run Tryd.prog (w.iter s pos) = _ := fun ty => run_next_ascii w s pos ty hp ha
              rw [hcons] at hA
              clear hcons
              generalize s[pos]'hp = b at *
              have hb48 : isDig b ↔ 48 ≤ b.toNat ∧ b.toNat ≤ 57 := Iff.rfl
              generalize hN : b.toNat = c at *
              by_cases g1 : c < 48
              · have HF := Aside0.mk (hA.out.symm.trans (noP_bad b _ n (by rw [hb48]; omega)))
                have t1 : decide ((c : Int) < 48) = true := by rw [decide_eq_true_eq]; omega
                have t2 : decide (c < 48) = true := by rw [decide_eq_true_eq]; omega
                clear hA hb48 hN g1
                go_wp2
                go_ret2
                exact NoIs.mk_ (a := 0) (b := 112) (by rw [HN.out]; exact HF.out.symm) (hBel.out _)
              have t1 : decide ((c : Int) < 48) = false := by rw [decide_eq_false_iff_not]; omega
              have t2 : decide (c < 48) = false := by rw [decide_eq_false_iff_not]; omega
              by_cases g2 : 57 < c
              · have HF := Aside0.mk (hA.out.symm.trans (noP_bad b _ n (by rw [hb48]; omega)))
                have t3 : decide ((57 : Int) < (c : Int)) = true := by rw [decide_eq_true_eq]; omega
                have t4 : decide (57 < c) = true := by rw [decide_eq_true_eq]; omega
                clear hA hb48 hN g1 g2
                go_wp2
                go_ret2
                exact NoIs.mk_ (a := 0) (b := 112) (by rw [HN.out]; exact HF.out.symm) (hBel.out _)
              have t3 : decide ((57 : Int) < (c : Int)) = false := by rw [decide_eq_false_iff_not]; omega
              have t4 : decide (57 < c) = false := by rw [decide_eq_false_iff_not]; omega
              have hdig : isDig b := hb48.2 ⟨by omega, by omega⟩
              have k1 : wrap32 ((c : Int) - 48) = (c : Int) - 48 := by unfold wrap32; omega
              have k2 : wrap64 ((c : Int) - 48) = (c : Int) - 48 := by unfold wrap64; omega
              have k3 : wrap64 (9223372036854775807 - ((c : Int) - 48)) = 9223372036854775807 - ((c : Int) - 48) := by unfold wrap64; omega
              have k4 : Int.tdiv (9223372036854775807 - ((c : Int) - 48)) 10 = (9223372036854775807 - ((c : Int) - 48)) / 10 := Int.tdiv_eq_ediv_of_nonneg (by omega)
              by_cases g3 : 9223372036854775807 < 10 * n + (c - 48)
              · have HF := Aside0.mk (hA.out.symm.trans (noP_big b _ n hdig (by rw [hN]; exact g3)))
                have t5 : decide ((9223372036854775807 - ((c : Int) - 48)) / 10 < (n : Int)) = true := by rw [decide_eq_true_eq]; omega
                clear hA hb48 hN g1 g2 g3 hdig
                go_wp2
                go_ret2
                exact NoIs.mk_ (a := 0) (b := 112) (by rw [HN.out]; exact HF.out.symm) (hBel.out _)
              · have HA2 := Aside0.mk ((noP_go b (s.data.toList.drop (pos + 1)) n hdig (by rw [hN]; exact g3)).symm.trans hA.out)
                rw [hN] at HA2
                have t5 : decide ((9223372036854775807 - ((c : Int) - 48)) / 10 < (n : Int)) = false := by rw [decide_eq_false_iff_not]; omega
                have k5 : wrap64 (10 * (n : Int)) = 10 * (n : Int) := by unfold wrap64; omega
                have k6 : wrap64 (10 * (n : Int) + ((c : Int) - 48)) = 10 * (n : Int) + ((c : Int) - 48) := by unfold wrap64; omega
                have hv : ((10 * n + (c - 48) : Nat) : Int) = 10 * (n : Int) + ((c : Int) - 48) := by omega
                have HV := Aside0.mk (And.intro hv (show 10 * n + (c - 48) ≤ 9223372036854775807 by omega))
                clear hA hb48 hN g1 g2 g3 hdig hv
                go_wp2
                go_roundw
                case rel => exact ⟨pos + 1, 10 * n + (c - 48), rfl, by have := HV.out.1; simp only [Value.int.injEq, true_and]; omega, hp, HV.out.2, HA2⟩
                case measure => simp; omega
            · have hnx : ∀ ty, (Instr.next (.pointer (some ⟨w.heap.size, 0, none⟩)) true ty).run Tryd.prog (w.iter s pos) = _ := fun ty => run_next_any w s pos ty hp
              have hh := (decode_high s pos hp (by omega)).1
              have hle := decode_le s pos
              rw [hcons] at hA
              have HF := Aside0.mk (hA.out.symm.trans (noP_bad (s[pos]'hp) _ n (by unfold isDig; omega)))
              clear hA hcons ha
              generalize (Utf8.decode s pos).1 = r at *
              generalize (Utf8.decode s pos).2 = wd at *
              have t1 : decide ((r : Int) < 48) = false := by rw [decide_eq_false_iff_not]; omega
              have t2 : decide (r < 48) = false := by rw [decide_eq_false_iff_not]; omega
              have t3 : decide ((57 : Int) < (r : Int)) = true := by rw [decide_eq_true_eq]; omega
              have t4 : decide (57 < r) = true := by rw [decide_eq_true_eq]; omega
              go_wp2
              go_ret2
              exact NoIs.mk_ (a := 0) (b := 112) (by rw [HN.out]; exact HF.out.symm) (hBel.out _)
          · have hnx : ∀ ty, (Instr.next (.pointer (some ⟨w.heap.size, 0, none⟩)) true ty).run Tryd.prog (w.iter s pos) = _ := fun ty => run_next_end w s pos ty hp
            have HF := Aside0.mk ((show noP (s.data.toList.drop pos) n = (n, 0) by rw [List.drop_eq_nil_of_le (by rw [size_list]; omega)]; rfl).symm.trans hA.out)
            clear hA
            go_wp2
            go_ret2
            exact NoIs.mk_ (a := n) (b := 0) (by rw [HN.out]; exact HF.out) (hBel.out _)
end Go.Proofs.YtbkpkfbdpmjgoaaDoor.T
end
section
namespace Go.Proofs.YtbkpkfbdpmjgoaaDoor.T
open Go.RowKit Go.Proofs.YtbkpkfbdpmjgoaaDoorW.PrintWords Go.Proofs.YtbkpkfbdpmjgoaaDoorW.PrintLast Go.Proofs.YtbkpkfbdpmjgoaaDoorW.PrintMore
attribute [local go_sem] max2_int min2_int max_two min_two max_three min_three max_four min_four   -- for this text's walks alone
set_option linter.unusedVariables false
set_option linter.unusedSimpArgs false
set_option maxRecDepth 100000 in
theorem int_closure (b0 b1 : Nat) (low high : Int) (s : ByteArray) (W : World) (hs : s.size ≤ 140737488351232) (h0 : W.cell? ⟨b0, 0, none⟩ = some (.int .i64 low)) (h1 : W.cell? ⟨b1, 0, none⟩ = some (.int .i64 high)) :
    Calls Tryd.prog 32 (#[.string s] ++ #[.pointer (some ⟨b0, 0, none⟩), .pointer (some ⟨b1, 0, none⟩)]) W fun e w' => e = .returned (.tuple #[.int .i64 (takeInt s low high).1, .int .i64 (takeInt s low high).2]) ∧ Below W.heap.size W w' := by
  have HN := Aside0.mk (body_Number_walk s W hs)
  have l0 := World.block_lt_of_cell? W _ h0
  have l1 := World.block_lt_of_cell? W _ h1
  unfold takeInt
  generalize hr : numP s.data.toList = r at *
  obtain ⟨n, e⟩ := r
  go_enter Tryd.func32, Tryd.ntmps32
  go_wp2_with (go_at_call 8; refine HN.out.mono ?_; rintro en w1 ⟨rfl, hb⟩; have h0' := (hb.cell (p := ⟨b0, 0, none⟩) l0).trans h0; have h1' := (hb.cell (p := ⟨b1, 0, none⟩) l1).trans h1)
  all_goals go_ret2
  all_goals exact ⟨rfl, hb⟩
set_option maxRecDepth 100000 in
set_option maxHeartbeats 4000000 in
theorem ask_int (g : Nat) (p : PlS) (F : FormS) (k : Nat) (w : World) (h : FormIs g p F k w) (hk : k < 9223372036854775807) (hv : ∀ x s, F.vals x = some s → s.size ≤ 140737488351232) (t low high : Int) (ht : i64ok t) (b0 b1 : Nat)
    (h0 : w.cell? ⟨b0, 0, none⟩ = some (.int .i64 low)) (h1 : w.cell? ⟨b1, 0, none⟩ = some (.int .i64 high)) (n0 : ¬ FormB g p b0) (n1 : ¬ FormB g p b1) :
    Calls Tryd.prog 31 #[.pointer (some ⟨g, 0, none⟩), .int .i64 t, .func (.func 32) #[] #[.pointer (some ⟨b0, 0, none⟩), .pointer (some ⟨b1, 0, none⟩)]] w fun e w' =>
      e = .returned (.int .i64 (askL (fun s => takeInt s low high) 0 F t).1) ∧ FormIs g p (askL (fun s => takeInt s low high) 0 F t).2 (k + 1) w' ∧ Turned (FormB g p) w w' := by
  have hc1 := h.c1
  have hc2 := h.c2
  have hc4 := h.c4
  have HF := Aside0.mk h
  have HIs := Aside0.mk (form_is g p F k w h)
  by_cases he : F.e = 0
  · have t1 : (F.e != 0) = false := by rw [he]; rfl
    obtain ⟨w1, hrun, hAs, hgr⟩ := h.asked.put t ht hk
    have HF1 : Aside0 (FormIs g p (F.mark t) (k + 1) w1) := ⟨h.ask hAs hgr⟩
    have HT : Aside0 (Turned (FormB g p) w w1) := ⟨Turned.of_grown hgr (.inr rfl)⟩
    have HH := Aside0.mk (form_has g p _ _ w1 HF1.out t ht)
    have h0' := HT.out.cell h0 n0
    have h1' := HT.out.cell h1 n1
    have hc11 := HF1.out.c1
    have hlk := HF1.out.vals.look t ht
    clear hgr hAs h0 h1
    have hc31 := HF1.out.c3
    have hc41 := HF1.out.c4
    have hl31 := HF1.out.l3
    have hl41 := HF1.out.l4
    rw [show (F.mark t).vals t = F.vals t from rfl] at HH hlk
    cases hvt : F.vals t with
    | none =>
      have HA := Aside0.mk (askL_none (fun s => takeInt s low high) 0 F t he hvt)
      rw [hvt] at HH hlk
      have HE := Aside0.mk (HF1.out.fail t 110)
      have HT2 : Aside0 (Turned (FormB g p) w ((w1.setCell ⟨g, 3, none⟩ (.int .i64 t)).setCell ⟨g, 4, none⟩ (.int .i64 110))) := ⟨(HT.out.setCell (p := ⟨g, 3, none⟩) (.inl rfl) _).setCell (p := ⟨g, 4, none⟩) (.inl rfl) _⟩
      simp only [Option.isSome_none] at HH
      clear hlk
      go_enter Tryd.func31, Tryd.ntmps31
      go_wp2_with (first | (go_at_call 27; refine HIs.out.mono ?_; rintro e w' ⟨rfl, hh⟩; obtain rfl : w = w' := hh.symm) | (go_at_call 16; refine HH.out.mono ?_; rintro e w' ⟨rfl, hh⟩; obtain rfl : w1 = w' := hh.symm))
      go_ret
      rw [HA.out]
      exact ⟨rfl, HE.out, HT2.out⟩
    | some s =>
      have HA := Aside0.mk (askL_some (fun s => takeInt s low high) 0 F t he hvt)
      rw [hvt] at HH hlk
      simp only [Option.isSome_some, Option.getD_some] at HH hlk
      have HC := Aside0.mk (int_closure b0 b1 low high s w1 (hv t s hvt) h0' h1')
      try simp only at HA
      generalize hr : takeInt s low high = r at *
      obtain ⟨n, e⟩ := r
      try simp only at HA HC
      clear hr h0' h1'
      have HR : Aside0 (∀ w2, Below w1.heap.size w1 w2 → FormIs g p (F.mark t) (k + 1) w2 ∧ Turned (FormB g p) w w2) := ⟨fun w2 hb => ⟨HF1.out.below hb, HT.out.trans (Turned.of_below hb)⟩⟩
      have HE : Aside0 (∀ w2, FormIs g p (F.mark t) (k + 1) w2 → Turned (FormB g p) w w2 → FormIs g p ((F.mark t).fail t e) (k + 1) ((w2.setCell ⟨g, 3, none⟩ (.int .i64 t)).setCell ⟨g, 4, none⟩ (.int .i64 e)) ∧ Turned (FormB g p) w ((w2.setCell ⟨g, 3, none⟩ (.int .i64 t)).setCell ⟨g, 4, none⟩ (.int .i64 e))) := ⟨fun w2 h2 ht2 => ⟨h2.fail t e, (ht2.setCell (p := ⟨g, 3, none⟩) (.inl rfl) _).setCell (p := ⟨g, 4, none⟩) (.inl rfl) _⟩⟩
      by_cases ce : e = 0
      · have HA2 : Aside0 (askL (fun s => takeInt s low high) 0 F t = (n, F.mark t)) := ⟨HA.out.trans (if_pos ce)⟩
        have t2 : (e == 0) = true := by rw [ce]; rfl
        clear HA
        go_enter Tryd.func31, Tryd.ntmps31
        go_wp2_with (first | (go_at_call 27; refine HIs.out.mono ?_; rintro e w' ⟨rfl, hh⟩; obtain rfl : w = w' := hh.symm) | (go_at_call 16; refine HH.out.mono ?_; rintro e w' ⟨rfl, hh⟩; obtain rfl : w1 = w' := hh.symm) | (go_at_call 32; refine HC.out.mono ?_; rintro en w2 ⟨rfl, hb⟩; have HR2 := Aside0.mk (HR.out w2 hb); have hc32 := HR2.out.1.c3; have hc42 := HR2.out.1.c4; have hl32 := HR2.out.1.l3; have hl42 := HR2.out.1.l4; clear hb))
        go_ret
        rw [HA2.out]
        exact ⟨rfl, HR2.out.1, HR2.out.2⟩
      · have HA2 : Aside0 (askL (fun s => takeInt s low high) 0 F t = (0, (F.mark t).fail t e)) := ⟨HA.out.trans (if_neg ce)⟩
        have t2 : (e == 0) = false := by rw [beq_eq_false_iff_ne]; exact ce
        clear HA
        go_enter Tryd.func31, Tryd.ntmps31
        go_wp2_with (first | (go_at_call 27; refine HIs.out.mono ?_; rintro e w' ⟨rfl, hh⟩; obtain rfl : w = w' := hh.symm) | (go_at_call 16; refine HH.out.mono ?_; rintro e w' ⟨rfl, hh⟩; obtain rfl : w1 = w' := hh.symm) | (go_at_call 32; refine HC.out.mono ?_; rintro en w2 ⟨rfl, hb⟩; have HR2 := Aside0.mk (HR.out w2 hb); have hc32 := HR2.out.1.c3; have hc42 := HR2.out.1.c4; have hl32 := HR2.out.1.l3; have hl42 := HR2.out.1.l4; clear hb))
        go_ret
        rw [HA2.out]
        exact ⟨rfl, (HE.out w2 HR2.out.1 HR2.out.2).1, (HE.out w2 HR2.out.1 HR2.out.2).2⟩
  · have HA : Aside0 (askL (fun s => takeInt s low high) 0 F t = (0, F)) := ⟨askL_off _ _ _ _ he⟩
    have t1 : (F.e != 0) = true := by rw [bne_iff_ne]; exact he
    go_enter Tryd.func31, Tryd.ntmps31
    go_wp2_with (go_at_call 27; refine HIs.out.mono ?_; rintro e w' ⟨rfl, hh⟩; obtain rfl : w = w' := hh.symm)
    go_ret
    rw [HA.out]
    exact ⟨rfl, HF.out.mono (by omega), Turned.refl _ _⟩
set_option maxRecDepth 100000 in
set_option maxHeartbeats 4000000 in
theorem form_int (g : Nat) (p : PlS) (F : FormS) (k : Nat) (w : World) (h : FormIs g p F k w) (hk : k < 9223372036854775807) (hv : ∀ x s, F.vals x = some s → s.size ≤ 140737488351232) (t low high : Int) (ht : i64ok t) (ha : p.a < w.heap.size) :
    Calls Tryd.prog 18 #[.pointer (some ⟨g, 0, none⟩), .int .i64 t, .int .i64 low, .int .i64 high] w fun e w' =>
      e = .returned (.int .i64 (askL (fun s => takeInt s low high) 0 F t).1) ∧ FormIs g p (askL (fun s => takeInt s low high) 0 F t).2 (k + 1) w' ∧ Turned (FormB g p) w w' := by
  have hg := h.lt
  have HB : Aside0 (Below w.heap.size w ((w.alloc (.cells #[.int .i64 low] 3)).alloc (.cells #[.int .i64 high] 3))) := ⟨((Below.refl _ _).alloc (Nat.le_refl _) _).alloc (by simp) _⟩
  have HF := Aside0.mk (h.below HB.out)
  have HAk := Aside0.mk (ask_int g p F k _ HF.out hk hv t low high ht w.heap.size (w.heap.size + 1) (by simp [go_sem]) (by simp [go_sem]) (fun e => by rcases e with e | e <;> omega) (fun e => by rcases e with e | e <;> omega))
  have hmf : ∀ (fn : Fn) (first cap : Array Value) (w : World), (Instr.makeFunc fn first cap).run Tryd.prog w = .ok (.func fn first cap) w := fun _ _ _ _ => rfl
  go_enter Tryd.func18, Tryd.ntmps18
  go_wp2_with (go_at_call 31; refine HAk.out.mono ?_; rintro e w' ⟨rfl, h1, h2⟩)
  go_ret
  exact ⟨rfl, h1, (Turned.of_below HB.out).trans h2⟩
theorem Turned.imp {S S' : Nat → Prop} {w w' : World} (h : Turned S w w') (hs : ∀ k, S k → S' k) : Turned S' w w' := ⟨h.os, h.tape, h.output, h.size, fun k hk hn => h.block k hk (fun e => hn (hs k e))⟩
section
variable {w : World} {g : Nat} {p : PlS} {L : List S51} {b : Nat} {T : TypeId} {F F' : FormS} {k k' : Nat} {cs : Array Value} {W W' : World}
end
theorem allFormsL_len (l : List (Int × List UInt8)) : (allFormsL l).1.length ≤ 40000 := by
  unfold allFormsL
  by_cases c : 64 < l.length
  · rw [if_pos c]; simp
  · rw [if_neg c]
    have := formsL_len l
    omega
theorem valsOf_none (l : List S51) (t : Int) (h : t ∉ tagsOf l) : valsOf l t = none := by
  unfold valsOf
  rw [List.find?_eq_none.2 (fun x hx => by
    intro e
    exact h (List.mem_map.2 ⟨x, hx, by simpa using e⟩))]
  rfl
theorem dupL_no : ∀ (l seen : List S51), (tagsOf (seen ++ l)).Nodup → dupL seen l = false
  | [], _, _ => rfl
  | x :: r, seen, h => by
    have hx : x.f0 ∉ tagsOf seen := by
      intro hm
      have h2 : (tagsOf seen ++ x.f0 :: tagsOf r).Nodup := by unfold tagsOf at h ⊢; simpa using h
      exact (List.nodup_append.1 h2).2.2 _ hm _ List.mem_cons_self rfl
    rw [dupL_cons, if_neg (by rw [valsOf_none seen _ hx]; decide)]
    exact dupL_no r (seen ++ [x]) (by rw [List.append_assoc]; exact h)
theorem readB_formed (L : List S51) (hn : (tagsOf L).Nodup) (h0 : 0 < L.length) (h35 : (rd_T51 L 0).f0 = 35) (hpos : ∀ x ∈ L, 0 ≤ x.f0) (he : (allFormsL (L.map pairF)).2 = 0) :
    readB ⟨(allFormsL (L.map pairF)).1.toArray⟩ = (some (formOf L), 0) := by
  unfold allFormsL at he ⊢
  by_cases c : 64 < (L.map pairF).length
  · rw [if_pos c] at he; simp at he
  rw [if_neg c] at he ⊢
  have hf := fieldsL_formed (L.map pairF) 0 0 he (by omega)
  have hb : fieldsB ⟨(formsL (L.map pairF)).1.toArray⟩ = L := by
    unfold fieldsB
    rw [show (⟨(formsL (L.map pairF)).1.toArray⟩ : ByteArray).data.toList = (formsL (L.map pairF)).1 by simp, hf]
    simp only [List.map_map]
    conv => rhs; rw [← List.map_id L]
    apply List.map_congr_left
    intro x hx
    show mkF (readF (pairF x)) = x
    have := hpos x hx
    unfold mkF readF pairF
    simp only
    rw [Int.toNat_of_nonneg this]
  unfold readB
  rw [hb, show (⟨(formsL (L.map pairF)).1.toArray⟩ : ByteArray).data.toList = (formsL (L.map pairF)).1 by simp, hf]
  simp only
  rw [if_neg (by simp), if_neg (fun h => h.elim (fun h => by omega) (fun h => h h35)), if_neg (by rw [dupL_no L [] (by simpa using hn)]; decide)]
section
variable {N g b : Nat} {cs : Array Value} {T : TypeId} {L : List S51} {W w w' : World}
end
end Go.Proofs.YtbkpkfbdpmjgoaaDoor.T
end
section
namespace Go.Proofs.YtbkpkfbdpmjgoaaDoor.T
open Go.RowKit Go.Proofs.YtbkpkfbdpmjgoaaDoorW.PrintWords Go.Proofs.YtbkpkfbdpmjgoaaDoorW.PrintLast Go.Proofs.YtbkpkfbdpmjgoaaDoorW.PrintMore
attribute [local go_sem] max2_int min2_int max_two min_two max_three min_three max_four min_four   -- for this text's walks alone
set_option linter.unusedVariables false
set_option linter.unusedSimpArgs false
theorem Below.drewN_f {B : Nat} {a w : World} (h : Below B a w) (q : Nat) : Below B a (w.drewN q) := ⟨h.os, h.tape, h.output, h.size, h.block⟩
structure FormLow (N g : Nat) (p : PlS) : Prop where
  g : g < N
  a : p.a < N
  v : p.v < N
  o : ∀ x, p.A = some x → x.block < N
structure FormHigh (N g : Nat) (p : PlS) : Prop where
  g : N ≤ g
  a : N ≤ p.a
  v : N ≤ p.v
  o : ∀ x, p.A = some x → N ≤ x.block
theorem FormIs.low {g : Nat} {p : PlS} {F : FormS} {k : Nat} {w : World} (h : FormIs g p F k w) (hl : 0 < F.order.length) : FormLow w.heap.size g p := by
  obtain ⟨D, h1, _⟩ := h.vals
  obtain ⟨D2, h2, _⟩ := h.asked
  obtain ⟨ad, hA, hc, _⟩ := h.ord 0 hl
  refine ⟨h.lt, h2.lt, h1.lt, fun x hx => ?_⟩
  obtain rfl : ad = x := Option.some.inj (hA.symm.trans hx)
  have := World.block_lt_of_cell? w _ hc
  rwa [addr_block] at this
theorem FormIs.keepHigh {N g1 g2 k : Nat} {p1 p2 : PlS} {F : FormS} {w w' : World} (h : FormIs g2 p2 F k w) (l : FormLow N g1 p1) (u : FormHigh N g2 p2) (ht : Turned (FormB g1 p1) w w') : FormIs g2 p2 F k w' := by
  have := l.g; have := l.a; have := u.g; have := u.a; have := u.v
  exact h.turned ht (fun e => by rcases e with e | e <;> omega) (fun e => by rcases e with e | e <;> omega) (fun e => by rcases e with e | e <;> omega) (fun a ha e => by have := u.o a ha; rcases e with e | e <;> omega)
theorem FormIs.keepLow {N g1 g2 k : Nat} {p1 p2 : PlS} {F : FormS} {w w' : World} (h : FormIs g1 p1 F k w) (l : FormLow N g1 p1) (u : FormHigh N g2 p2) (ht : Turned (FormB g2 p2) w w') : FormIs g1 p1 F k w' := by
  have := l.g; have := l.a; have := u.g; have := u.a; have := l.v
  exact h.turned ht (fun e => by rcases e with e | e <;> omega) (fun e => by rcases e with e | e <;> omega) (fun e => by rcases e with e | e <;> omega) (fun a ha e => by have := l.o a ha; rcases e with e | e <;> omega)
def aw1 : List S51 := [⟨35, ⟨#[68]⟩⟩, ⟨38, ⟨#[48, 55]⟩⟩]
def aw2 : List S51 := [⟨35, ⟨#[68]⟩⟩, ⟨38, ⟨#[55]⟩⟩, ⟨54, ⟨#[49]⟩⟩]
theorem aw_form (t : Nat) (ht : 1 ≤ t ∧ t < 100) (v : List UInt8) (hv : v ≠ []) (hl : v.length ≤ 512) (ha : allMay v = true) (r : List UInt8) (hr : digitsN t ++ 61 :: (v ++ [1]) = r) : formL (t : Int) v = (r, 0) := by
  unfold formL valueL
  rw [if_neg (by omega), ha, Int.toNat_natCast, hr]
  have : 1 ≤ v.length := List.length_pos_iff.2 hv
  simp [this, hl]
theorem dig2 (a b : Nat) (ha : 1 ≤ a) (ha2 : a < 10) (hb : b < 10) : digitsN (10 * a + b) = [UInt8.ofNat (48 + a), UInt8.ofNat (48 + b)] := by
  rw [digitsN_step (by omega), show (10 * a + b) / 10 = a by omega, show (10 * a + b) % 10 = b by omega, digitsN_small ha2]; rfl
theorem may1 (b : UInt8) (h : b.toNat < 128) (hm : mayB b.toNat = true) (t : List UInt8) : allMay (b :: t) = allMay t := by
  rw [allMay_cons _ (by simp), dec_ascii _ _ h, hm]
  simp
theorem aw_read1 : readB ⟨#[51, 53, 61, 68, 1, 51, 56, 61, 48, 55, 1]⟩ = (some (formOf aw1), 0) := by
  have f1 : formL 35 [68] = ([51, 53, 61, 68, 1], 0) := aw_form 35 (by decide) _ (by simp) (by decide) (by rw [may1 _ (by decide) (by decide), allMay_nil]) _ (by rw [show 35 = 10 * 3 + 5 from rfl, dig2 3 5 (by decide) (by decide) (by decide)]; rfl)
  have f2 : formL 38 [48, 55] = ([51, 56, 61, 48, 55, 1], 0) := aw_form 38 (by decide) _ (by simp) (by decide) (by rw [may1 _ (by decide) (by decide), may1 _ (by decide) (by decide), allMay_nil]) _ (by rw [show 38 = 10 * 3 + 8 from rfl, dig2 3 8 (by decide) (by decide) (by decide)]; rfl)
  have hfs : formsL [(35, [68]), (38, [48, 55])] = ([51, 53, 61, 68, 1, 51, 56, 61, 48, 55, 1], 0) := by simp [formsL, f1, f2]
  have h := fieldsL_formed [(35, [68]), (38, [48, 55])] 0 0 (by rw [hfs]) (by decide)
  rw [hfs] at h
  unfold readB fieldsB
  rw [show (⟨#[51, 53, 61, 68, 1, 51, 56, 61, 48, 55, 1]⟩ : ByteArray).data.toList = [51, 53, 61, 68, 1, 51, 56, 61, 48, 55, 1] from rfl, h]
  rfl
theorem aw_read2 : readB ⟨#[51, 53, 61, 68, 1, 51, 56, 61, 55, 1, 53, 52, 61, 49, 1]⟩ = (some (formOf aw2), 0) := by
  have f1 : formL 35 [68] = ([51, 53, 61, 68, 1], 0) := aw_form 35 (by decide) _ (by simp) (by decide) (by rw [may1 _ (by decide) (by decide), allMay_nil]) _ (by rw [show 35 = 10 * 3 + 5 from rfl, dig2 3 5 (by decide) (by decide) (by decide)]; rfl)
  have f2 : formL 38 [55] = ([51, 56, 61, 55, 1], 0) := aw_form 38 (by decide) _ (by simp) (by decide) (by rw [may1 _ (by decide) (by decide), allMay_nil]) _ (by rw [show 38 = 10 * 3 + 8 from rfl, dig2 3 8 (by decide) (by decide) (by decide)]; rfl)
  have f3 : formL 54 [49] = ([53, 52, 61, 49, 1], 0) := aw_form 54 (by decide) _ (by simp) (by decide) (by rw [may1 _ (by decide) (by decide), allMay_nil]) _ (by rw [show 54 = 10 * 5 + 4 from rfl, dig2 5 4 (by decide) (by decide) (by decide)]; rfl)
  have hfs : formsL [(35, [68]), (38, [55]), (54, [49])] = ([51, 53, 61, 68, 1, 51, 56, 61, 55, 1, 53, 52, 61, 49, 1], 0) := by simp [formsL, f1, f2, f3]
  have h := fieldsL_formed [(35, [68]), (38, [55]), (54, [49])] 0 0 (by rw [hfs]) (by decide)
  rw [hfs] at h
  unfold readB fieldsB
  rw [show (⟨#[51, 53, 61, 68, 1, 51, 56, 61, 55, 1, 53, 52, 61, 49, 1]⟩ : ByteArray).data.toList = [51, 53, 61, 68, 1, 51, 56, 61, 55, 1, 53, 52, 61, 49, 1] from rfl, h]
  rfl
theorem aw_f1 : (formOf aw1).vals 35 = some ⟨#[68]⟩ := rfl
theorem aw_f2 : (formOf aw2).vals 35 = some ⟨#[68]⟩ := rfl
abbrev awF1 : FormS := ((formOf aw1).mark 35)
abbrev awF2 : FormS := ((formOf aw2).mark 35)
theorem aw_i1 : askL (fun s => takeInt s 0 9) 0 awF1 38 = (0, (awF1.mark 38).fail 38 112) := by
  unfold askL
  rw [if_neg (by decide), show awF1.vals 38 = some ⟨#[48, 55]⟩ from rfl]
  rfl
theorem aw_i2 : askL (fun s => takeInt s 0 9) 0 awF2 38 = (7, awF2.mark 38) := by
  unfold askL
  rw [if_neg (by decide), show awF2.vals 38 = some ⟨#[55]⟩ from rfl]
  rfl
theorem aw_d2 : spareL (awF2.mark 38).asked (awF2.mark 38).order = (54, 113) := by rfl
theorem aw_sizes1 : ∀ x s, awF1.vals x = some s → s.size ≤ 140737488351232 := fun x s h => by
  have := (readB_sizes _ _ _ aw_read1).1 x s h; omega
theorem aw_sizes2 : ∀ x s, awF2.vals x = some s → s.size ≤ 140737488351232 := fun x s h => by
  have := (readB_sizes _ _ _ aw_read2).1 x s h; omega
theorem aw_kind (F : FormS) (h0 : F.e = 0) (h35 : F.vals 35 = some ⟨#[68]⟩) (g : Nat) (p : PlS) (w : World) (h : FormIs g p F 0 w) :
    Calls Tryd.prog 15 #[.pointer (some ⟨g, 0, none⟩)] w fun e w' => e = .returned (.string ⟨#[68]⟩) ∧ FormIs g p (F.mark 35) 1 w' ∧ Turned (FormB g p) w w' :=
  (form_kind g p F 0 w h (by decide)).mono fun e w' hh => by
    obtain ⟨rfl, _, h2⟩ := hh
    rw [h35]
    exact ⟨rfl, (h2 h0).1, (h2 h0).2⟩
set_option maxRecDepth 100000 in
set_option maxHeartbeats 4000000 in
theorem awake_walk (w : World) : Calls Tryd.prog 7 #[] w fun e w' => e = .returned (.bool true) ∧ Below w.heap.size w w' := by
  have HR1 := Aside0.mk (read_walk ⟨#[51, 53, 61, 68, 1, 51, 56, 61, 48, 55, 1]⟩ w (by decide))
  have HR2 : Aside0 (∀ W, Calls Tryd.prog 21 #[.string ⟨#[51, 53, 61, 68, 1, 51, 56, 61, 55, 1, 53, 52, 61, 49, 1]⟩] W (ReadIs (some (formOf aw2), 0) W)) := ⟨fun W => by rw [← aw_read2]; exact read_walk _ W (by decide)⟩
  rw [aw_read1] at HR1
  have hKd : ∀ F : FormS, F.e = 0 → F.vals 35 = some ⟨#[68]⟩ → Aside0 (∀ g p W, FormIs g p F 0 W → Calls Tryd.prog 15 #[.pointer (some ⟨g, 0, none⟩)] W fun e w' => e = .returned (.string ⟨#[68]⟩) ∧ FormIs g p (F.mark 35) 1 w' ∧ Turned (FormB g p) W w') := fun F h0 h35 => ⟨fun g p W h => aw_kind F h0 h35 g p W h⟩
  have HK1 := hKd (formOf aw1) rfl aw_f1
  have HK2 := hKd (formOf aw2) rfl aw_f2
  clear hKd
  have HI1 : Aside0 (∀ g p W, FormIs g p awF1 1 W → p.a < W.heap.size → Calls Tryd.prog 18 #[.pointer (some ⟨g, 0, none⟩), .int .i64 38, .int .i64 0, .int .i64 9] W fun e w' => e = .returned (.int .i64 0) ∧ FormIs g p ((awF1.mark 38).fail 38 112) 2 w' ∧ Turned (FormB g p) W w') :=
    ⟨fun g p W h ha => (form_int g p awF1 1 W h (by decide) aw_sizes1 38 0 9 (i64ok_of (by decide) (by decide)) ha).mono fun e w' hh => by rw [aw_i1] at hh; exact hh⟩
  have HI2 : Aside0 (∀ g p W, FormIs g p awF2 1 W → p.a < W.heap.size → Calls Tryd.prog 18 #[.pointer (some ⟨g, 0, none⟩), .int .i64 38, .int .i64 0, .int .i64 9] W fun e w' => e = .returned (.int .i64 7) ∧ FormIs g p (awF2.mark 38) 2 w' ∧ Turned (FormB g p) W w') :=
    ⟨fun g p W h ha => (form_int g p awF2 1 W h (by decide) aw_sizes2 38 0 9 (i64ok_of (by decide) (by decide)) ha).mono fun e w' hh => by rw [aw_i2] at hh; exact hh⟩
  have HD1 : Aside0 (∀ g p W, FormIs g p ((awF1.mark 38).fail 38 112) 2 W → Calls Tryd.prog 14 #[.pointer (some ⟨g, 0, none⟩)] W fun e w' => e = .returned (.tuple #[.int .i64 38, .int .i64 112]) ∧ ∃ q, w' = W.drewN q) :=
    ⟨fun g p W h => form_done_e g p _ 2 W h (by decide)⟩
  have HD2 : Aside0 (∀ g p W, FormIs g p (awF2.mark 38) 2 W → Calls Tryd.prog 14 #[.pointer (some ⟨g, 0, none⟩)] W fun e w' => e = .returned (.tuple #[.int .i64 54, .int .i64 113]) ∧ w' = W) :=
    ⟨fun g p W h => (form_done_ok g p _ 2 W h rfl (by decide)).mono fun e w' hh => by rw [aw_d2] at hh; exact hh⟩
  go_enter Tryd.func7, Tryd.ntmps7
  go_wp2_with (first
    | (go_at_call 21; first
        | ((with_reducible refine HR1.out.mono ?_); rintro e1 w1 ⟨hb1, g1, p1, rfl, hf1, a1, a2, a3, a4⟩; have hs1 := hb1.size; have L := Aside0.mk (hf1.low (by decide)); have HF1 := Aside0.mk hf1; have HB := Aside0.mk hb1; clear hf1 hb1 a4 HR1)
        | ((with_reducible refine (HR2.out _).mono ?_); rintro e2 w2 ⟨hb2, g2, p2, rfl, hf2, b1, b2, b3, b4⟩; have U := Aside0.mk (FormHigh.mk b1 b2 b3 b4); have HF1' := Aside0.mk (HF1.out.below hb2); have HF2 := Aside0.mk hf2; have HB' := Aside0.mk (HB.out.trans (hb2.mono HB.out.size)); have hsz := hb2.size; clear hf2 hb2 b4 HR2 HF1 HB))
    | (go_at_call 15; first
        | ((with_reducible refine (HK1.out g1 p1 _ HF1'.out).mono ?_); rintro e3 w3 ⟨rfl, h3, t3⟩; have HZ3 := Aside0.mk t3.size; have G1 := Aside0.mk h3; have HF2' := Aside0.mk (HF2.out.keepHigh L.out U.out t3); have HB3 := Aside0.mk (HB'.out.trans (t3.below (fun k hk => by rcases hk with hk | hk <;> omega) HB'.out.size)); clear h3 t3 HF1' HF2 HB' HK1)
        | ((with_reducible refine (HK2.out g2 p2 _ HF2'.out).mono ?_); rintro e4 w4 ⟨rfl, h4, t4⟩; have G2 := Aside0.mk h4; have G1' := Aside0.mk (G1.out.keepLow L.out U.out t4); have HZ := Aside0.mk (Nat.le_trans hsz (Nat.le_trans HZ3.out t4.size)); have HB4 := Aside0.mk (HB3.out.trans (t4.below (fun k hk => by rcases hk with hk | hk <;> omega) HB3.out.size)); clear h4 t4 G1 HF2' HB3 HK2 HZ3))
    | (go_at_call 18; first
        | ((with_reducible refine (HI1.out g1 p1 _ G1'.out (Nat.lt_of_lt_of_le L.out.a HZ.out)).mono ?_); rintro e5 w5 ⟨rfl, h5, t5⟩; have E1 := Aside0.mk h5; have G2' := Aside0.mk (G2.out.keepHigh L.out U.out t5); have HB5 := Aside0.mk (HB4.out.trans (t5.below (fun k hk => by rcases hk with hk | hk <;> omega) HB4.out.size)); have HZ5 := Aside0.mk (Nat.le_trans HZ.out t5.size); clear h5 t5 G1' G2 HB4 HI1 HZ)
        | ((with_reducible refine (HI2.out g2 p2 _ G2'.out (FormIs.alt G2'.out)).mono ?_); rintro e6 w6 ⟨rfl, h6, t6⟩; have E2 := Aside0.mk h6; have E1' := Aside0.mk (E1.out.keepLow L.out U.out t6); have HB6 := Aside0.mk (HB5.out.trans (t6.below (fun k hk => by rcases hk with hk | hk <;> omega) HB5.out.size)); clear h6 t6 E1 G2' HB5 HI2 HZ5))
    | (go_at_call 14; first
        | ((with_reducible refine (HD1.out g1 p1 _ E1'.out).mono ?_); rintro e7 w7 ⟨rfl, q, rfl⟩; have E2' := Aside0.mk (E2.out.below (Below.drewN_f (Below.refl _ _) q)); have HB7 := Aside0.mk (Below.drewN_f HB6.out q); clear E1' E2 HB6 HD1)
        | ((with_reducible refine (HD2.out g2 p2 _ E2'.out).mono ?_); rintro e8 w8 ⟨rfl, rfl⟩)))
  go_ret
  exact ⟨rfl, HB7.out⟩
end Go.Proofs.YtbkpkfbdpmjgoaaDoor.T
end
section
namespace Go.Proofs.YtbkpkfbdpmjgoaaDoor.T
open Go.RowKit Go.Proofs.YtbkpkfbdpmjgoaaDoorW.PrintWords Go.Proofs.YtbkpkfbdpmjgoaaDoorW.PrintLast Go.Proofs.YtbkpkfbdpmjgoaaDoorW.PrintMore
attribute [local go_sem] max2_int min2_int max_two min_two max_three min_three max_four min_four   -- for this text's walks alone
set_option linter.unusedVariables false
set_option linter.unusedSimpArgs false
def spigotref08_Digits_p.f : Nat → Int → Option (ByteArray)
  | 0, _ => none
  | k + 1, a0 => if a0 < 10 then (some (strOfNums (([(wrap64 (48 + a0)) % 256] : List Int)))) else ((spigotref08_Digits_p.f k (wrap64 (Int.tdiv a0 10))).bind fun t121 => ((some (([(wrap64 (48 + (Int.tmod a0 10))) % 256] : List Int) : List Int)).bind fun y122 => (if t121.size + (strOfNums y122).size ≤ 9223372036854775807 then (some (t121 ++ (strOfNums y122))) else (none))))
theorem spigotref08_Digits_p.mono_l : ∀ k, (∀ y0, LeO (spigotref08_Digits_p.f k y0) (spigotref08_Digits_p.f (k + 1) y0))
  | 0 => fun _ r h => by simp [spigotref08_Digits_p.f] at h
  | k + 1 => by
    have ih0 := spigotref08_Digits_p.mono_l k
    · intro y0
      unfold spigotref08_Digits_p.f
      repeat' first
      | (with_reducible exact ih0 _)
      | (with_reducible exact LeO.refl _)
      | (with_reducible exact LeO.none _)
      | (with_reducible refine LeO.ite ?_ ?_)
      | (with_reducible refine LeO.bind ?_ (fun _ => ?_))
      | exact ih0 _
      | exact LeO.none _
      | refine LeO.ite ?_ ?_
      | refine LeO.bind ?_ (fun _ => ?_)
theorem spigotref08_Digits_p.mono : ∀ a0 k, LeO (spigotref08_Digits_p.f k a0) (spigotref08_Digits_p.f (k + 1) a0) := by
  intro a0 k
  have ih0 := spigotref08_Digits_p.mono_l k
  exact ih0 a0
def spigotref08_Digits_p.T3 : Bool × List (List Nat × List Nat) := (true, [([], []), ([0], [0]), ([1], [1]), ([], []), ([3], [3]), ([4], [4]), ([5], [5]), ([6], [6]), ([7], [7]), ([2, 8], [2, 8]), ([9, 2, 0, 1, 2, 3, 4, 5, 6, 7, 8, 9], [9])])
def spigotref08_Digits_p.B3 : List Nat := [0, 1, 3, 0, 8, 24, 56, 120, 248, 511, 1023]
theorem spigotref08_Digits_p.tab3 : rtab .any (opsOf Tryd.f13 3) = spigotref08_Digits_p.T3 := by kernel_rfl
theorem spigotref08_Digits_p.bits3 : waitsOk spigotref08_Digits_p.T3.2 spigotref08_Digits_p.B3 = true := by kernel_rfl
set_option maxHeartbeats 8000000 in
set_option maxRecDepth 100000 in
theorem spigotref08_Digits_p.calls (k : Nat) : ∀ (a0 : Int) (r : ByteArray) (w : World) (h : spigotref08_Digits_p.f k a0 = some r),
    Calls Tryd.prog 13 #[.int .i64 a0] w fun e w' => e = .returned (.string r) ∧ Below w.heap.size w w' := by
  induction k using Nat.strongRecOn with
  | _ k ih =>
  intro a0 r w h
  cases k with
  | zero => exact absurd h (by simp [spigotref08_Digits_p.f])
  | succ k =>
  simp only [spigotref08_Digits_p.f] at h
  have HB := Aside0.mk (Below.refl w.heap.size w)
  have H : (if a0 < 10 then (some (strOfNums (([(wrap64 (48 + a0)) % 256] : List Int)))) else ((spigotref08_Digits_p.f k (wrap64 (Int.tdiv a0 10))).bind fun t121 => ((some (([(wrap64 (48 + (Int.tmod a0 10))) % 256] : List Int) : List Int)).bind fun y122 => (if t121.size + (strOfNums y122).size ≤ 9223372036854775807 then (some (t121 ++ (strOfNums y122))) else (none))))) = some r := h
  clear h
  by_cases c2 : a0 < 10
  · rw [if_pos c2] at H
    have c2b0 : decide (a0 < 10) = true := decide_eq_true c2
    clear c2
    obtain ⟨y118, hy118⟩ : ∃ y_ : List Int, y_ = (([(wrap64 (48 + a0)) % 256] : List Int)) := ⟨_, rfl⟩
    replace H : (some (strOfNums y118)) = some r := by first | (rw [hy118]; with_reducible exact H) | (have H2_ := (Option.bind_some _ _).symm.trans H; rw [hy118]; with_reducible exact H2_) | (have H2_ := (Option.bind_some _ _).symm.trans H; with_reducible exact H2_) | with_reducible exact H | (rw [hy118]; exact H) | exact H
    have Ny118 := Aside0.mk hy118
    clear hy118
    obtain rfl := Option.some.inj H
    go_enter Tryd.func13, Tryd.ntmps13
    go_wp2_with (first | ((with_reducible refine gate_dst (N := 8) rfl ?_); refine Kd.R_lit (Kd.int .u8) _ 5 ?hg (N := 8) ?hd (xs := ([(wrap64 (48 + a0)) % 256] : List Int)) (inner := [.int .u8 ((wrap64 (48 + a0)) % 256)]) (ok := fun _ => True) (okp := fun _ => True) ?hr ?hp (fun _ hk => hk) trivial (Below.refl _ _) (Nat.le_refl _) (by simp) ?_; (case hd => rfl); (case hg => rfl); (case hr => first | (go_simp; done) | (go_simp; rfl)); (case hp => exact (Reps.one (show Kd.M (Kd.int .u8) _ _ _ ((wrap64 (48 + a0)) % 256) [.int .u8 ((wrap64 (48 + a0)) % 256)] from rfl) (Reps.none _ _))); intro v119 w3 ho4 hb hg_ hnew_; clear hg_ hnew_; (first | rw [← Ny118.out] at ho4 | (simp only [Int.reduceToNat] at ho4; rw [← Ny118.out] at ho4)); have n0_ := Aside0.mk (Kd.R_lower ho4 (below_size (by repeat (first | (with_reducible first | exact HB.out | apply below_alloc | apply pw_below_drewN | apply below_drew1) | exact HB.out)))); have n1_ := Aside0.mk (below_step (by repeat (first | (with_reducible first | exact HB.out | apply below_alloc | apply pw_below_drewN | apply below_drew1) | exact HB.out)) hb); clear HB; have HO120 := n0_; have HB := n1_; clear n0_ n1_; clear hb ho4; have hcv5 := own_string (P := Tryd.prog) Tryd.underlying66 Tryd.underlying5 Tryd.underlying9 (Kd.own_of_R HO120.out)))
    go_ret
    exact ⟨by first | rfl | (simp [errW_none, errW_some] <;> rfl) | (simp [*, errW_none, errW_some] <;> rfl), by repeat (first | (with_reducible first | exact HB.out | apply below_alloc | apply pw_below_drewN | apply below_drew1) | exact HB.out)⟩
  · rw [if_neg c2] at H
    have c2b0 : decide (a0 < 10) = false := decide_eq_false c2
    clear c2
    replace H := Option.bind_eq_some_iff.mp H
    obtain ⟨t121, A60, H⟩ := H
    replace H : ((some (([(wrap64 (48 + (Int.tmod a0 10))) % 256] : List Int) : List Int)).bind fun y122 => (if t121.size + (strOfNums y122).size ≤ 9223372036854775807 then (some (t121 ++ (strOfNums y122))) else (none))) = some r := H
    have A6 := Aside0.mk A60
    clear A60
    obtain ⟨y122, hy122⟩ : ∃ y_ : List Int, y_ = (([(wrap64 (48 + (Int.tmod a0 10))) % 256] : List Int)) := ⟨_, rfl⟩
    replace H : (if t121.size + (strOfNums y122).size ≤ 9223372036854775807 then (some (t121 ++ (strOfNums y122))) else (none)) = some r := by first | (rw [hy122]; with_reducible exact H) | (have H2_ := (Option.bind_some _ _).symm.trans H; rw [hy122]; with_reducible exact H2_) | (have H2_ := (Option.bind_some _ _).symm.trans H; with_reducible exact H2_) | with_reducible exact H | (rw [hy122]; exact H) | exact H
    have Ny122 := Aside0.mk hy122
    clear hy122
    by_cases c7 : t121.size + (strOfNums y122).size ≤ 9223372036854775807
    · rw [if_pos c7] at H
      have c7b0 := eq_true c7
      have c7b1 : decide (t121.size + (strOfNums y122).size ≤ 9223372036854775807) = true := decide_eq_true c7
      try have c7b2 : (9223372036854775807 < t121.size + (strOfNums y122).size) = False := eq_false (Nat.not_lt.2 c7)
      try (have c7b3 := c7; simp only [ByteArray.size_append, sz_lit, List.length_cons, List.length_nil, Nat.zero_add] at c7b3; have c7b4 := eq_false (Nat.not_lt.2 c7b3))
      obtain rfl := Option.some.inj H
      go_enter Tryd.func13, Tryd.ntmps13
      try go_wp2
      have n0_ := Aside0.mk (below_drew1 HB.out)
      clear HB
      have HB := n0_
      clear n0_
      refine start_ (n := 11) (S := fun w' => True) (ds := []) #[false, false, false, false, false, false, false, false, false, false, false] (by kernel_rfl) rfl rfl trivial (fun hHeld => ?_); refine with_tabW spigotref08_Digits_p.tab3 spigotref08_Digits_p.bits3 (fun HT_ HW_ => ?_)
      generalize w.drew = w8 at HB hHeld ⊢
      refine pure_ (i := 0) (N := some 10) (v := ?_) (a' := ?_) #[true, false, false, false, false, false, false, false, false, false, false] rfl rfl (any_of HT_.out (by kernel_rfl)) (fun _ _ _ h => h) (Or.inl ⟨by rfl, ?_⟩) ?_ ?_
      rotate_left
      · intro w'
        go_simp
        with_reducible rfl
      rotate_left
      · simp only [Act.put, List.setIfInBounds_toArray, List.set_cons_zero, List.set_cons_succ, i64_w, i32_w]
        rfl
      refine pure_ (i := 1) (N := some 11) (v := ?_) (a' := ?_) #[true, true, false, false, false, false, false, false, false, false, false] rfl rfl (any_of HT_.out (by kernel_rfl)) (fun _ _ _ h => h) (Or.inl ⟨by rfl, ?_⟩) ?_ ?_
      rotate_left
      · intro w'
        go_simp
        with_reducible rfl
      rotate_left
      · simp only [Act.put, List.setIfInBounds_toArray, List.set_cons_zero, List.set_cons_succ, i64_w, i32_w]
        rfl
      refine pure_ (i := 3) (N := some 13) (v := ?_) (a' := ?_) #[true, true, false, true, false, false, false, false, false, false, false] rfl rfl (any_of HT_.out (by kernel_rfl)) (fun _ _ _ h => h) (Or.inl ⟨by rfl, ?_⟩) ?_ ?_
      rotate_left
      · intro w'
        go_simp
        with_reducible rfl
      rotate_left
      · simp only [Act.put, List.setIfInBounds_toArray, List.set_cons_zero, List.set_cons_succ, i64_w, i32_w]
        rfl
      refine pure_ (i := 4) (N := some 14) (v := ?_) (a' := ?_) #[true, true, false, true, true, false, false, false, false, false, false] rfl rfl (any_of HT_.out (by kernel_rfl)) (fun _ _ _ h => h) (Or.inl ⟨by rfl, ?_⟩) ?_ ?_
      rotate_left
      · intro w'
        go_simp
        with_reducible rfl
      rotate_left
      · simp only [Act.put, List.setIfInBounds_toArray, List.set_cons_zero, List.set_cons_succ, i64_w, i32_w]
        rfl
      refine pure_ (i := 5) (N := some 15) (v := ?_) (a' := ?_) #[true, true, false, true, true, true, false, false, false, false, false] rfl rfl (any_of HT_.out (by kernel_rfl)) (fun _ _ _ h => h) (Or.inl ⟨by rfl, ?_⟩) ?_ ?_
      rotate_left
      · intro w'
        go_simp
        with_reducible rfl
      rotate_left
      · simp only [Act.put, List.setIfInBounds_toArray, List.set_cons_zero, List.set_cons_succ, i64_w, i32_w]
        rfl
      refine pure_ (i := 6) (N := some 16) (v := ?_) (a' := ?_) #[true, true, false, true, true, true, true, false, false, false, false] rfl rfl (any_of HT_.out (by kernel_rfl)) (fun _ _ _ h => h) (Or.inl ⟨by rfl, ?_⟩) ?_ ?_
      rotate_left
      · intro w'
        go_simp
        with_reducible rfl
      rotate_left
      · simp only [Act.put, List.setIfInBounds_toArray, List.set_cons_zero, List.set_cons_succ, i64_w, i32_w]
        rfl
      refine join_ (σ := Value) 2 #[true, true, true, true, true, true, true, true, true, false, false] (fun s_ => [(12, .string t121), (17, s_), (18, .string (strOfNums y122))]) (fun s_ w' => (Kd.R (Kd.int .u8) 5 w' w.heap.size (fun _ => True) s_ y122) ∧ (Below w.heap.size w w')) ?_ ?_
      rotate_left
      · intro hCont
        refine two_ (i := 2) (j := 7) (Ni := some 12) (Nj := some 17) #[true, true, true, true, true, true, true, false, false, false, false] #[true, true, false, true, true, true, true, true, false, false, false] rfl rfl rfl rfl (two_of HT_.out (by kernel_rfl)) (by decide) (by decide) (fun K hK => ?_) (fun K hK => ?_)
        · skip
          refine goes_ Tryd.func13 (by kernel_rfl) rfl #[.int .i64 (wrap64 (Int.tdiv a0 10))] (by rfl) rfl rfl (by (try simp only [List.map_toArray, List.map_cons, List.map_nil]); first | done | rfl | (simp only [List.length_drop, List.length_take]; rfl)) ?_
          with_reducible refine (ih k (by omega) (wrap64 (Int.tdiv a0 10)) t121 _ A6.out).mono ?_
          rintro e w9 ⟨rfl, hb⟩
          refine ⟨_, rfl, ?_⟩
          have n0_ := Aside0.mk (below_step (by repeat (first | (with_reducible first | exact HB.out | apply below_alloc | apply pw_below_drewN | apply below_drew1) | exact HB.out)) hb)
          clear HB
          have HB := n0_
          clear n0_
          (try clear hb)
          (try clear hb2)
          (try clear hk)
          (try clear hi)
          refine hK.out _ _ trivial (fun hHeld => ?_)
          clear hK K
          refine norm_ (a' := ?_) ?_ ?_
          rotate_left
          · show Act.put _ (some 12) _ = _
            simp only [Act.put, List.setIfInBounds_toArray, List.set_cons_zero, List.set_cons_succ, i64_w, i32_w]
            rfl
          refine one_ (i := 7) (N := some 17) #[true, true, true, true, true, true, true, true, false, false, false] rfl rfl (one_of HT_.out (by kernel_rfl)) (by decide) (fun K hK => ?_)
          refine Kd.R_lit_step (Kd.int .u8) _ 5 ?hg (N := 17) ?hd (xs := ([(wrap64 (48 + (Int.tmod a0 10))) % 256] : List Int)) (inner := [.int .u8 ((wrap64 (48 + (Int.tmod a0 10))) % 256)]) (ok := fun _ => True) (okp := fun _ => True) ?hr ?hp (fun _ hk => hk) trivial (Below.refl _ _) (Nat.le_refl _) (by simp) ?_; (case hd => rfl); (case hg => rfl); (case hr => first | (go_simp; done) | (go_simp; rfl)); (case hp => exact (Reps.one (show Kd.M (Kd.int .u8) _ _ _ ((wrap64 (48 + (Int.tmod a0 10))) % 256) [.int .u8 ((wrap64 (48 + (Int.tmod a0 10))) % 256)] from rfl) (Reps.none _ _)))
          intro v123 w10 ho11 hb hg_ hnew_
          clear hg_ hnew_
          (first | rw [← Ny122.out] at ho11 | (simp only [Int.reduceToNat] at ho11; rw [← Ny122.out] at ho11))
          have n0_ := Aside0.mk (Kd.R_lower ho11 (below_size (by repeat (first | (with_reducible first | exact HB.out | apply below_alloc | apply pw_below_drewN | apply below_drew1) | exact HB.out))))
          have n1_ := Aside0.mk (below_step (by repeat (first | (with_reducible first | exact HB.out | apply below_alloc | apply pw_below_drewN | apply below_drew1) | exact HB.out)) hb)
          clear HB
          have HO124 := n0_
          have HB := n1_
          clear n0_ n1_
          clear hb ho11
          refine hK.out _ _ trivial (fun hHeld => ?_)
          clear hK K
          refine norm_ (a' := ?_) ?_ ?_
          rotate_left
          · show Act.put _ (some 17) _ = _
            simp only [Act.put, List.setIfInBounds_toArray, List.set_cons_zero, List.set_cons_succ, i64_w, i32_w]
            rfl
          refine one_ (i := 8) (N := some 18) #[true, true, true, true, true, true, true, true, true, false, false] rfl rfl (one_of HT_.out (by kernel_rfl)) (by decide) (fun K hK => ?_)
          have hcv12 := own_string (P := Tryd.prog) Tryd.underlying66 Tryd.underlying5 Tryd.underlying9 (Kd.own_of_R HO124.out)
          refine value_ (w1 := ?_) (v := ?_) (by rfl) rfl ?_ ?_
          rotate_left 2
          · go_simp
            constructor
            · rfl
            · rfl
          clear hcv12
          refine hK.out _ _ trivial (fun hHeld => ?_)
          clear hK K
          refine norm_ (a' := ?_) ?_ ?_
          rotate_left
          · show Act.put _ (some 18) _ = _
            simp only [Act.put, List.setIfInBounds_toArray, List.set_cons_zero, List.set_cons_succ, i64_w, i32_w]
            rfl
          exact norm_ (by simp only [putAll, Act.put, List.setIfInBounds_toArray, List.set_cons_zero, List.set_cons_succ]) (hCont (v123) _ ⟨(by (with_reducible repeat (first | apply Kd.R_alloc | apply Kd.R_drewN | apply Kd.R_drew)); exact HO124.out), (by repeat (first | (with_reducible first | exact HB.out | apply below_alloc | apply pw_below_drewN | apply below_drew1) | exact HB.out))⟩)
        · skip
          refine Kd.R_lit_step (Kd.int .u8) _ 5 ?hg (N := 17) ?hd (xs := ([(wrap64 (48 + (Int.tmod a0 10))) % 256] : List Int)) (inner := [.int .u8 ((wrap64 (48 + (Int.tmod a0 10))) % 256)]) (ok := fun _ => True) (okp := fun _ => True) ?hr ?hp (fun _ hk => hk) trivial (Below.refl _ _) (Nat.le_refl _) (by simp) ?_; (case hd => rfl); (case hg => rfl); (case hr => first | (go_simp; done) | (go_simp; rfl)); (case hp => exact (Reps.one (show Kd.M (Kd.int .u8) _ _ _ ((wrap64 (48 + (Int.tmod a0 10))) % 256) [.int .u8 ((wrap64 (48 + (Int.tmod a0 10))) % 256)] from rfl) (Reps.none _ _)))
          intro v123 w9 ho10 hb hg_ hnew_
          clear hg_ hnew_
          (first | rw [← Ny122.out] at ho10 | (simp only [Int.reduceToNat] at ho10; rw [← Ny122.out] at ho10))
          have n0_ := Aside0.mk (Kd.R_lower ho10 (below_size (by repeat (first | (with_reducible first | exact HB.out | apply below_alloc | apply pw_below_drewN | apply below_drew1) | exact HB.out))))
          have n1_ := Aside0.mk (below_step (by repeat (first | (with_reducible first | exact HB.out | apply below_alloc | apply pw_below_drewN | apply below_drew1) | exact HB.out)) hb)
          clear HB
          have HO124 := n0_
          have HB := n1_
          clear n0_ n1_
          clear hb ho10
          refine hK.out _ _ trivial (fun hHeld => ?_)
          clear hK K
          refine norm_ (a' := ?_) ?_ ?_
          rotate_left
          · show Act.put _ (some 17) _ = _
            simp only [Act.put, List.setIfInBounds_toArray, List.set_cons_zero, List.set_cons_succ, i64_w, i32_w]
            rfl
          refine two_ (i := 2) (j := 8) (Ni := some 12) (Nj := some 18) #[true, true, true, true, true, true, true, true, false, false, false] #[true, true, false, true, true, true, true, true, true, false, false] rfl rfl rfl rfl (two_of HT_.out (by kernel_rfl)) (by decide) (by decide) (fun K hK => ?_) (fun K hK => ?_)
          · skip
            refine goes_ Tryd.func13 (by kernel_rfl) rfl #[.int .i64 (wrap64 (Int.tdiv a0 10))] (by rfl) rfl rfl (by (try simp only [List.map_toArray, List.map_cons, List.map_nil]); first | done | rfl | (simp only [List.length_drop, List.length_take]; rfl)) ?_
            with_reducible refine (ih k (by omega) (wrap64 (Int.tdiv a0 10)) t121 _ A6.out).mono ?_
            rintro e w11 ⟨rfl, hb⟩
            refine ⟨_, rfl, ?_⟩
            have n0_ := Aside0.mk (Kd.R_below (by (with_reducible repeat (first | apply Kd.R_alloc | apply Kd.R_drewN | apply Kd.R_drew)); exact HO124.out) hb)
            have n1_ := Aside0.mk (below_step (by repeat (first | (with_reducible first | exact HB.out | apply below_alloc | apply pw_below_drewN | apply below_drew1) | exact HB.out)) hb)
            clear HO124
            clear HB
            have HO124 := n0_
            have HB := n1_
            clear n0_ n1_
            (try clear hb)
            (try clear hb2)
            (try clear hk)
            (try clear hi)
            refine hK.out _ _ trivial (fun hHeld => ?_)
            clear hK K
            refine norm_ (a' := ?_) ?_ ?_
            rotate_left
            · show Act.put _ (some 12) _ = _
              simp only [Act.put, List.setIfInBounds_toArray, List.set_cons_zero, List.set_cons_succ, i64_w, i32_w]
              rfl
            refine one_ (i := 8) (N := some 18) #[true, true, true, true, true, true, true, true, true, false, false] rfl rfl (one_of HT_.out (by kernel_rfl)) (by decide) (fun K hK => ?_)
            have hcv12 := own_string (P := Tryd.prog) Tryd.underlying66 Tryd.underlying5 Tryd.underlying9 (Kd.own_of_R HO124.out)
            refine value_ (w1 := ?_) (v := ?_) (by rfl) rfl ?_ ?_
            rotate_left 2
            · go_simp
              constructor
              · rfl
              · rfl
            clear hcv12
            refine hK.out _ _ trivial (fun hHeld => ?_)
            clear hK K
            refine norm_ (a' := ?_) ?_ ?_
            rotate_left
            · show Act.put _ (some 18) _ = _
              simp only [Act.put, List.setIfInBounds_toArray, List.set_cons_zero, List.set_cons_succ, i64_w, i32_w]
              rfl
            exact norm_ (by simp only [putAll, Act.put, List.setIfInBounds_toArray, List.set_cons_zero, List.set_cons_succ]) (hCont (v123) _ ⟨(by (with_reducible repeat (first | apply Kd.R_alloc | apply Kd.R_drewN | apply Kd.R_drew)); exact HO124.out), (by repeat (first | (with_reducible first | exact HB.out | apply below_alloc | apply pw_below_drewN | apply below_drew1) | exact HB.out))⟩)
          · skip
            have hcv11 := own_string (P := Tryd.prog) Tryd.underlying66 Tryd.underlying5 Tryd.underlying9 (Kd.own_of_R HO124.out)
            refine value_ (w1 := ?_) (v := ?_) (by rfl) rfl ?_ ?_
            rotate_left 2
            · go_simp
              constructor
              · rfl
              · rfl
            clear hcv11
            refine hK.out _ _ trivial (fun hHeld => ?_)
            clear hK K
            refine norm_ (a' := ?_) ?_ ?_
            rotate_left
            · show Act.put _ (some 18) _ = _
              simp only [Act.put, List.setIfInBounds_toArray, List.set_cons_zero, List.set_cons_succ, i64_w, i32_w]
              rfl
            refine one_ (i := 2) (N := some 12) #[true, true, true, true, true, true, true, true, true, false, false] rfl rfl (one_of HT_.out (by kernel_rfl)) (by decide) (fun K hK => ?_)
            refine goes_ Tryd.func13 (by kernel_rfl) rfl #[.int .i64 (wrap64 (Int.tdiv a0 10))] (by rfl) rfl rfl (by (try simp only [List.map_toArray, List.map_cons, List.map_nil]); first | done | rfl | (simp only [List.length_drop, List.length_take]; rfl)) ?_
            with_reducible refine (ih k (by omega) (wrap64 (Int.tdiv a0 10)) t121 _ A6.out).mono ?_
            rintro e w12 ⟨rfl, hb⟩
            refine ⟨_, rfl, ?_⟩
            have n0_ := Aside0.mk (Kd.R_below (by (with_reducible repeat (first | apply Kd.R_alloc | apply Kd.R_drewN | apply Kd.R_drew)); exact HO124.out) hb)
            have n1_ := Aside0.mk (below_step (by repeat (first | (with_reducible first | exact HB.out | apply below_alloc | apply pw_below_drewN | apply below_drew1) | exact HB.out)) hb)
            clear HO124
            clear HB
            have HO124 := n0_
            have HB := n1_
            clear n0_ n1_
            (try clear hb)
            (try clear hb2)
            (try clear hk)
            (try clear hi)
            refine hK.out _ _ trivial (fun hHeld => ?_)
            clear hK K
            refine norm_ (a' := ?_) ?_ ?_
            rotate_left
            · show Act.put _ (some 12) _ = _
              simp only [Act.put, List.setIfInBounds_toArray, List.set_cons_zero, List.set_cons_succ, i64_w, i32_w]
              rfl
            exact norm_ (by simp only [putAll, Act.put, List.setIfInBounds_toArray, List.set_cons_zero, List.set_cons_succ]) (hCont (v123) _ ⟨(by (with_reducible repeat (first | apply Kd.R_alloc | apply Kd.R_drewN | apply Kd.R_drew)); exact HO124.out), (by repeat (first | (with_reducible first | exact HB.out | apply below_alloc | apply pw_below_drewN | apply below_drew1) | exact HB.out))⟩)
      rintro v123 w13 ⟨h0_, h1_⟩
      have n0_ : Aside0 (Kd.R (Kd.int .u8) 5 w13 w.heap.size (fun _ => True) v123 y122) := ⟨h0_⟩
      have n1_ : Aside0 (Below w.heap.size w w13) := ⟨h1_⟩
      clear HB
      clear h0_ h1_
      have HO124 := n0_
      have HB := n1_
      clear n0_ n1_
      have hHeld := trivial
      refine norm_ (a' := ?_) ?_ ?_
      rotate_left
      · simp only [putAll, Act.put, List.setIfInBounds_toArray, List.set_cons_zero, List.set_cons_succ]
        rfl
      refine pure_ (i := 9) (N := some 19) (v := ?_) (a' := ?_) #[true, true, true, true, true, true, true, true, true, true, false] rfl rfl (any_of HT_.out (by kernel_rfl)) (fun _ _ _ h => h) (Or.inl ⟨by rfl, ?_⟩) ?_ ?_
      rotate_left
      · intro w'
        go_simp
        with_reducible rfl
      rotate_left
      · simp only [Act.put, List.setIfInBounds_toArray, List.set_cons_zero, List.set_cons_succ, i64_w, i32_w]
        rfl
      refine pure_ (i := 10) (N := some 2) (v := ?_) (a' := ?_) #[true, true, true, true, true, true, true, true, true, true, true] rfl rfl (any_of HT_.out (by kernel_rfl)) (fun _ _ _ h => h) (Or.inl ⟨by rfl, ?_⟩) ?_ ?_
      rotate_left
      · intro w'
        go_simp
        with_reducible rfl
      rotate_left
      · simp only [Act.put, List.setIfInBounds_toArray, List.set_cons_zero, List.set_cons_succ, i64_w, i32_w]
        rfl
      refine done_ (done_of HT_.out (by kernel_rfl)) ?_
      try go_wp2
      go_ret
      exact ⟨by first | rfl | (simp [errW_none, errW_some] <;> rfl) | (simp [*, errW_none, errW_some] <;> rfl), by repeat (first | (with_reducible first | exact HB.out | apply below_alloc | apply pw_below_drewN | apply below_drew1) | exact HB.out)⟩
    · rw [if_neg c7] at H
      exact absurd H (by simp)
theorem spigotref08_Digits_loop (n : Nat) : ∀ (k : Nat), n < 9223372036854775808 → n < k → spigotref08_Digits_p.f k (n : Int) = some ⟨(digitsN n).toArray⟩ := by
  induction n using Nat.strongRecOn with
  | _ n ih =>
  intro k hn hk
  obtain ⟨k, rfl⟩ : ∃ m, k = m + 1 := ⟨k - 1, by omega⟩
  simp only [spigotref08_Digits_p.f]
  by_cases h : n < 10
  · rw [if_pos (by omega), digitsN_small h, w64 (by omega) (by omega)]
    refine congrArg some (ba_ext ?_)
    have e3 : ((48 + (n : Int)) % 256).toNat = 48 + n := by omega
    simp only [strOfNums_list, List.map_cons, List.map_nil, e3]
  · have ed : Int.tdiv (n : Int) 10 = ((n / 10 : Nat) : Int) := by rw [Int.tdiv_eq_ediv_of_nonneg (by omega)]; omega
    have em : Int.tmod (n : Int) 10 = ((n % 10 : Nat) : Int) := by rw [Int.tmod_eq_emod_of_nonneg (by omega)]; omega
    rw [if_neg (by omega), ed, em, w64 (x := ((n / 10 : Nat) : Int)) (by omega) (by omega), w64 (by omega) (by omega), ih (n / 10) (by omega) k (by omega) (by omega)]
    simp only [Option.bind_some]
    have hl := digitsN_len 19 (n / 10) (by omega)
    have e1 : (⟨(digitsN (n / 10)).toArray⟩ : ByteArray).size = (digitsN (n / 10)).length := by simp [ByteArray.size]
    rw [if_pos (by rw [e1, strOfNums_size]; simp only [List.length_cons, List.length_nil]; omega), digitsN_step (n := n) (by omega)]
    refine congrArg some (ba_ext ?_)
    have e3 : ((48 + ((n % 10 : Nat) : Int)) % 256).toNat = 48 + n % 10 := by omega
    simp only [ByteArray.data_append, Array.toList_append, strOfNums_list, List.map_cons, List.map_nil, e3]
def spigotref08_Digits.f (a0 : Int) : Option ByteArray := if 0 ≤ a0 ∧ a0 ≤ 9223372036854775807 then some (digitsB a0) else none
theorem spigotref08_Digits.calls (a0 : Int) (r : ByteArray) (w : World) (h : spigotref08_Digits.f a0 = some r) :
    Calls Tryd.prog 13 #[.int .i64 a0] w fun e w' => e = .returned (.string r) ∧ Below w.heap.size w w' := by
  unfold spigotref08_Digits.f at h
  by_cases c : 0 ≤ a0 ∧ a0 ≤ 9223372036854775807
  · rw [if_pos c] at h
    obtain rfl := Option.some.inj h
    obtain ⟨n, rfl⟩ := Int.eq_ofNat_of_zero_le c.1
    exact spigotref08_Digits_p.calls (n + 1) n _ w (by simpa [digitsB] using spigotref08_Digits_loop n (n + 1) (by omega) (by omega))
  · rw [if_neg c] at h; cases h
end Go.Proofs.YtbkpkfbdpmjgoaaDoor.T
end
