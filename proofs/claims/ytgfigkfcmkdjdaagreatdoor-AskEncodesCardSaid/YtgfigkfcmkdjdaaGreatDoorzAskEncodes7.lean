/- The functions that the law reaches, as plain Lean functions, and their contracts: texts merged. -/
import Derived.Laws.StructEq
import Derived.Test.YtgfigkfcmkdjdaaGreatDoorzAskEncodes2
import Derived.Test.YtgfigkfcmkdjdaaGreatDoorzAskEncodes0
import Derived.Test.YtgfigkfcmkdjdaaGreatDoorzAskEncodes1
import Derived.Test.YtgfigkfcmkdjdaaGreatDoorzAskEncodes3
import Derived.Test.YtgfigkfcmkdjdaaGreatDoorzAskEncodes4
import Derived.Test.YtgfigkfcmkdjdaaGreatDoorzAskEncodes5
import Derived.Test.YtgfigkfcmkdjdaaGreatDoorzAskEncodes6
section
namespace Go.Proofs.YtgfigkfcmkdjdaaGreatDoor.B
open Go.RowKit Go.Proofs.YtgfigkfcmkdjdaaGreatDoorW.PrintWords Go.Proofs.YtgfigkfcmkdjdaaGreatDoorW.PrintLast Go.Proofs.YtgfigkfcmkdjdaaGreatDoorW.PrintMore
attribute [local go_sem] max2_int min2_int max_two min_two max_three min_three max_four min_four   -- for this text's walks alone
set_option linter.unusedVariables false
set_option linter.unusedSimpArgs false
theorem drop_cons_n (s : ByteArray) (pos : Nat) (h : pos < s.size) : s.data.toList.drop pos = s[pos]'h :: s.data.toList.drop (pos + 1) := by
  rw [List.drop_eq_getElem_cons (by rw [size_list]; exact h)]; rfl
def NoIs (r : Nat × Nat) (w : World) (e : Ending) (w' : World) : Prop := e = .returned (.tuple #[.int .i64 (r.1 : Int), .int .i64 (r.2 : Int)]) ∧ Below w.heap.size w w'
theorem NoIs.mk_ {r : Nat × Nat} {w w' : World} {a b : Nat} (h : (a, b) = r) (hw : Below w.heap.size w w') : NoIs r w (.returned (.tuple #[.int .i64 (a : Int), .int .i64 (b : Int)])) w' := by
  subst h; exact ⟨rfl, hw⟩
set_option maxRecDepth 100000 in
set_option maxHeartbeats 2000000 in
theorem body_Number_walk (s : ByteArray) (w : World) (hs : s.size ≤ 140737488351232) :
    Calls Tryz.prog 76 #[.string s] w (NoIs (numP s.data.toList) w) := by
  have hsl : s.data.toList.length = s.size := rfl
  by_cases c1 : s.size = 0
  · have hnil : s.data.toList = [] := List.eq_nil_of_length_eq_zero (by omega)
    have HF := Aside0.mk (show ((0 : Nat), (112 : Nat)) = numP s.data.toList by unfold numP; rw [if_pos (.inl hnil)])
    have e1 : (s.toList == ([] : List UInt8)) = true := by rw [ByteArray.toList_eq, hnil]; rfl
    clear hnil hsl
    go_enter Tryz.func76, Tryz.ntmps76
    go_wp2
    go_ret2
    exact NoIs.mk_ HF.out (Below.refl _ _)
  · have hne : ¬ s.data.toList = [] := fun e => by rw [e] at hsl; simp at hsl; omega
    have e1 : (s.toList == ([] : List UInt8)) = false := by rw [ByteArray.toList_eq, beq_eq_false_iff_ne]; exact hne
    have hlt : (0 : Int) < (s.size : Int) := by omega
    have hx0 : s.data.toList.getD 0 0 = s[0]'(by omega) := by
      rw [List.getD_eq_getElem?_getD, List.getElem?_eq_getElem (by omega)]; rfl
    have hlt2 : 0 < s.size := by omega
    by_cases c2 : s.data.toList.getD 0 0 = 48 ∧ 1 < s.data.toList.length
    · have HF := Aside0.mk (show ((0 : Nat), (112 : Nat)) = numP s.data.toList by unfold numP; rw [if_pos (.inr c2)])
      have hb0 : (s[0]'hlt2).toNat = 48 := by rw [← hx0, c2.1]; rfl
      have e3 : decide ((1 : Int) < (s.size : Int)) = true := by rw [decide_eq_true_eq]; omega
      have e4 : decide (1 < s.size) = true := by rw [decide_eq_true_eq]; omega
      clear hne hsl c2 hx0
      go_enter Tryz.func76, Tryz.ntmps76
      go_wp2
      go_ret2
      exact NoIs.mk_ HF.out (Below.refl _ _)
    · have HN := Aside0.mk (show numP s.data.toList = noP s.data.toList 0 by unfold numP; rw [if_neg (fun e => e.elim hne c2)])
      have hcase : (((s[0]'hlt2).toNat : Int) == 48) = false ∨ ((((s[0]'hlt2).toNat : Int) == 48) = true ∧ decide ((1 : Int) < (s.size : Int)) = false ∧ decide (1 < s.size) = false) := by
        by_cases g : s.data.toList.getD 0 0 = 48
        · right
          rw [hx0] at g
          refine ⟨by rw [g]; rfl, ?_, ?_⟩ <;> rw [decide_eq_false_iff_not] <;> (intro k; exact c2 ⟨by rw [hx0]; exact g, by omega⟩)
        · left
          rw [beq_eq_false_iff_ne]
          intro k
          exact g (by rw [hx0]; exact u8_ext (by show _ = 48; omega))
      clear hne hsl c2 hx0
      rcases hcase with e2 | ⟨e2, e3, e4⟩
      all_goals
        go_enter Tryz.func76, Tryz.ntmps76
        go_wp2
        go_loopw [4] (fun t w' => ∃ pos n : Nat, w' = w.iter s pos ∧ t = .int .i64 (n : Int) ∧ pos ≤ s.size ∧ n ≤ 9223372036854775807 ∧ Aside0 (noP (s.data.toList.drop pos) n = noP s.data.toList 0)) (fun _ w' => s.size - w'.iterPos w.heap.size)
        case atStart => exact ⟨0, 0, rfl, rfl, Nat.zero_le _, by omega, ⟨rfl⟩⟩
        case round =>
          obtain ⟨pos, n, rfl, rfl, hpos, hn, hA⟩ := hrel
          clear e1 e2 hlt
          have hBel : Aside0 (∀ p, Below w.heap.size w (w.iter s p)) := ⟨fun p => (Below.refl _ _).alloc (Nat.le_refl _) _⟩
          by_cases hp : pos < s.size
          · have hcons := drop_cons_n s pos hp
            by_cases ha : (s[pos]'hp).toNat < 128
            · have hnx : ∀ ty, (Instr.next (.pointer (some ⟨w.heap.size, 0, none⟩)) true ty).run Tryz.prog (w.iter s pos) = _ := fun ty => run_next_ascii w s pos ty hp ha
              rw [hcons] at hA
              clear hcons
              generalize s[pos]'hp = b at *
              have hb48 : isDig b ↔ 48 ≤ b.toNat ∧ b.toNat ≤ 57 := Iff.rfl
              generalize hN : b.toNat = c at *
              by_cases g1 : c < 48
              · have HF := Aside0.mk (hA.out.symm.trans (noP_bad b _ n (by rw [hb48]; omega)))
                have t1 : decide ((c : Int) < 48) = true := by rw [decide_eq_true_eq]; omega
                have t2 : decide (c < 48) = true := by rw [decide_eq_true_eq]; omega
                clear hA hb48 hN g1
                go_wp2
                go_ret2
                exact NoIs.mk_ (a := 0) (b := 112) (by rw [HN.out]; exact HF.out.symm) (hBel.out _)
              have t1 : decide ((c : Int) < 48) = false := by rw [decide_eq_false_iff_not]; omega
              have t2 : decide (c < 48) = false := by rw [decide_eq_false_iff_not]; omega
              by_cases g2 : 57 < c
              · have HF := Aside0.mk (hA.out.symm.trans (noP_bad b _ n (by rw [hb48]; omega)))
                have t3 : decide ((57 : Int) < (c : Int)) = true := by rw [decide_eq_true_eq]; omega
                have t4 : decide (57 < c) = true := by rw [decide_eq_true_eq]; omega
                clear hA hb48 hN g1 g2
                go_wp2
                go_ret2
                exact NoIs.mk_ (a := 0) (b := 112) (by rw [HN.out]; exact HF.out.symm) (hBel.out _)
              have t3 : decide ((57 : Int) < (c : Int)) = false := by rw [decide_eq_false_iff_not]; omega
              have t4 : decide (57 < c) = false := by rw [decide_eq_false_iff_not]; omega
              have hdig : isDig b := hb48.2 ⟨by omega, by omega⟩
              have k1 : wrap32 ((c : Int) - 48) = (c : Int) - 48 := by unfold wrap32; omega
              have k2 : wrap64 ((c : Int) - 48) = (c : Int) - 48 := by unfold wrap64; omega
              have k3 : wrap64 (9223372036854775807 - ((c : Int) - 48)) = 9223372036854775807 - ((c : Int) - 48) := by unfold wrap64; omega
              have k4 : Int.tdiv (9223372036854775807 - ((c : Int) - 48)) 10 = (9223372036854775807 - ((c : Int) - 48)) / 10 := Int.tdiv_eq_ediv_of_nonneg (by omega)
              by_cases g3 : 9223372036854775807 < 10 * n + (c - 48)
              · have HF := Aside0.mk (hA.out.symm.trans (noP_big b _ n hdig (by rw [hN]; exact g3)))
                have t5 : decide ((9223372036854775807 - ((c : Int) - 48)) / 10 < (n : Int)) = true := by rw [decide_eq_true_eq]; omega
                clear hA hb48 hN g1 g2 g3 hdig
                go_wp2
                go_ret2
                exact NoIs.mk_ (a := 0) (b := 112) (by rw [HN.out]; exact HF.out.symm) (hBel.out _)
              · have HA2 := Aside0.mk ((noP_go b (s.data.toList.drop (pos + 1)) n hdig (by rw [hN]; exact g3)).symm.trans hA.out)
                rw [hN] at HA2
                have t5 : decide ((9223372036854775807 - ((c : Int) - 48)) / 10 < (n : Int)) = false := by rw [decide_eq_false_iff_not]; omega
                have k5 : wrap64 (10 * (n : Int)) = 10 * (n : Int) := by unfold wrap64; omega
                have k6 : wrap64 (10 * (n : Int) + ((c : Int) - 48)) = 10 * (n : Int) + ((c : Int) - 48) := by unfold wrap64; omega
                have hv : ((10 * n + (c - 48) : Nat) : Int) = 10 * (n : Int) + ((c : Int) - 48) := by omega
                have HV := Aside0.mk (And.intro hv (show 10 * n + (c - 48) ≤ 9223372036854775807 by omega))
                clear hA hb48 hN g1 g2 g3 hdig hv
                go_wp2
                go_roundw
                case rel => exact ⟨pos + 1, 10 * n + (c - 48), rfl, by have := HV.out.1; simp only [Value.int.injEq, true_and]; omega, hp, HV.out.2, HA2⟩
                case measure => simp; omega
            · have hnx : ∀ ty, (Instr.next (.pointer (some ⟨w.heap.size, 0, none⟩)) true ty).run Tryz.prog (w.iter s pos) = _ := fun ty => run_next_any w s pos ty hp
              have hh := (decode_high s pos hp (by omega)).1
              have hle := decode_le s pos
              rw [hcons] at hA
              have HF := Aside0.mk (hA.out.symm.trans (noP_bad (s[pos]'hp) _ n (by unfold isDig; omega)))
              clear hA hcons ha
              generalize (Utf8.decode s pos).1 = r at *
              generalize (Utf8.decode s pos).2 = wd at *
              have t1 : decide ((r : Int) < 48) = false := by rw [decide_eq_false_iff_not]; omega
              have t2 : decide (r < 48) = false := by rw [decide_eq_false_iff_not]; omega
              have t3 : decide ((57 : Int) < (r : Int)) = true := by rw [decide_eq_true_eq]; omega
              have t4 : decide (57 < r) = true := by rw [decide_eq_true_eq]; omega
              go_wp2
              go_ret2
              exact NoIs.mk_ (a := 0) (b := 112) (by rw [HN.out]; exact HF.out.symm) (hBel.out _)
          · have hnx : ∀ ty, (Instr.next (.pointer (some ⟨w.heap.size, 0, none⟩)) true ty).run Tryz.prog (w.iter s pos) = _ := fun ty => run_next_end w s pos ty hp
            have HF := Aside0.mk ((show noP (s.data.toList.drop pos) n = (n, 0) by rw [List.drop_eq_nil_of_le (by rw [size_list]; omega)]; rfl).symm.trans hA.out)
            clear hA
            go_wp2
            go_ret2
            exact NoIs.mk_ (a := n) (b := 0) (by rw [HN.out]; exact HF.out) (hBel.out _)
def body_Number.f (a0 : ByteArray) : Option (Int × Int) := if a0.size ≤ 140737488351232 then some (((numP a0.data.toList).1 : Int), ((numP a0.data.toList).2 : Int)) else none
theorem body_Number.calls (a0 : ByteArray) (r1 r2 : Int) (w : World) (h : body_Number.f a0 = some (r1, r2)) :
    Calls Tryz.prog 76 #[.string a0] w fun e w' => e = .returned (.tuple #[.int .i64 r1, .int .i64 r2]) ∧ Below w.heap.size w w' := by
  unfold body_Number.f at h
  by_cases c : a0.size ≤ 140737488351232
  · rw [if_pos c] at h
    simp only [Option.some.injEq, Prod.mk.injEq] at h
    obtain ⟨rfl, rfl⟩ := h
    exact body_Number_walk a0 w c
  · rw [if_neg c] at h; cases h
end Go.Proofs.YtgfigkfcmkdjdaaGreatDoor.B
end
section
namespace Go.Proofs.YtgfigkfcmkdjdaaGreatDoor.B
open Go.RowKit Go.Proofs.YtgfigkfcmkdjdaaGreatDoorW.PrintWords Go.Proofs.YtgfigkfcmkdjdaaGreatDoorW.PrintLast Go.Proofs.YtgfigkfcmkdjdaaGreatDoorW.PrintMore
attribute [local go_sem] max2_int min2_int max_two min_two max_three min_three max_four min_four   -- for this text's walks alone
set_option linter.unusedVariables false
set_option linter.unusedSimpArgs false
set_option maxRecDepth 100000 in
theorem int_closure (b0 b1 : Nat) (low high : Int) (s : ByteArray) (W : World) (hs : s.size ≤ 140737488351232) (h0 : W.cell? ⟨b0, 0, none⟩ = some (.int .i64 low)) (h1 : W.cell? ⟨b1, 0, none⟩ = some (.int .i64 high)) :
    Calls Tryz.prog 75 (#[.string s] ++ #[.pointer (some ⟨b0, 0, none⟩), .pointer (some ⟨b1, 0, none⟩)]) W fun e w' => e = .returned (.tuple #[.int .i64 (takeInt s low high).1, .int .i64 (takeInt s low high).2]) ∧ Below W.heap.size W w' := by
  have HN := Aside0.mk (body_Number_walk s W hs)
  have l0 := World.block_lt_of_cell? W _ h0
  have l1 := World.block_lt_of_cell? W _ h1
  unfold takeInt
  generalize hr : numP s.data.toList = r at *
  obtain ⟨n, e⟩ := r
  go_enter Tryz.func75, Tryz.ntmps75
  go_wp2_with (go_at_call 76; refine HN.out.mono ?_; rintro en w1 ⟨rfl, hb⟩; have h0' := (hb.cell (p := ⟨b0, 0, none⟩) l0).trans h0; have h1' := (hb.cell (p := ⟨b1, 0, none⟩) l1).trans h1)
  all_goals go_ret2
  all_goals exact ⟨rfl, hb⟩
set_option maxRecDepth 100000 in
set_option maxHeartbeats 4000000 in
theorem ask_int (g : Nat) (p : PlS) (F : FormS) (k : Nat) (w : World) (h : FormIs g p F k w) (hk : k < 9223372036854775807) (hv : ∀ x s, F.vals x = some s → s.size ≤ 140737488351232) (t low high : Int) (ht : i64ok t) (b0 b1 : Nat)
    (h0 : w.cell? ⟨b0, 0, none⟩ = some (.int .i64 low)) (h1 : w.cell? ⟨b1, 0, none⟩ = some (.int .i64 high)) (n0 : ¬ FormB g p b0) (n1 : ¬ FormB g p b1) :
    Calls Tryz.prog 74 #[.pointer (some ⟨g, 0, none⟩), .int .i64 t, .func (.func 75) #[] #[.pointer (some ⟨b0, 0, none⟩), .pointer (some ⟨b1, 0, none⟩)]] w fun e w' =>
      e = .returned (.int .i64 (askL (fun s => takeInt s low high) 0 F t).1) ∧ FormIs g p (askL (fun s => takeInt s low high) 0 F t).2 (k + 1) w' ∧ Turned (FormB g p) w w' := by
  have hc1 := h.c1
  have hc2 := h.c2
  have hc4 := h.c4
  have HF := Aside0.mk h
  have HIs := Aside0.mk (form_is g p F k w h)
  by_cases he : F.e = 0
  · have t1 : (F.e != 0) = false := by rw [he]; rfl
    obtain ⟨w1, hrun, hAs, hgr⟩ := h.asked.put t ht hk
    have HF1 : Aside0 (FormIs g p (F.mark t) (k + 1) w1) := ⟨h.ask hAs hgr⟩
    have HT : Aside0 (Turned (FormB g p) w w1) := ⟨Turned.of_grown hgr (.inr rfl)⟩
    have HH := Aside0.mk (form_has g p _ _ w1 HF1.out t ht)
    have h0' := HT.out.cell h0 n0
    have h1' := HT.out.cell h1 n1
    have hc11 := HF1.out.c1
    have hlk := HF1.out.vals.look t ht
    clear hgr hAs h0 h1
    have hc31 := HF1.out.c3
    have hc41 := HF1.out.c4
    have hl31 := HF1.out.l3
    have hl41 := HF1.out.l4
    rw [show (F.mark t).vals t = F.vals t from rfl] at HH hlk
    cases hvt : F.vals t with
    | none =>
      have HA := Aside0.mk (askL_none (fun s => takeInt s low high) 0 F t he hvt)
      rw [hvt] at HH hlk
      have HE := Aside0.mk (HF1.out.fail t 110)
      have HT2 : Aside0 (Turned (FormB g p) w ((w1.setCell ⟨g, 3, none⟩ (.int .i64 t)).setCell ⟨g, 4, none⟩ (.int .i64 110))) := ⟨(HT.out.setCell (p := ⟨g, 3, none⟩) (.inl rfl) _).setCell (p := ⟨g, 4, none⟩) (.inl rfl) _⟩
      simp only [Option.isSome_none] at HH
      clear hlk
      go_enter Tryz.func74, Tryz.ntmps74
      go_wp2_with (first | (go_at_call 57; refine HIs.out.mono ?_; rintro e w' ⟨rfl, hh⟩; obtain rfl : w = w' := hh.symm) | (go_at_call 56; refine HH.out.mono ?_; rintro e w' ⟨rfl, hh⟩; obtain rfl : w1 = w' := hh.symm))
      go_ret
      rw [HA.out]
      exact ⟨rfl, HE.out, HT2.out⟩
    | some s =>
      have HA := Aside0.mk (askL_some (fun s => takeInt s low high) 0 F t he hvt)
      rw [hvt] at HH hlk
      simp only [Option.isSome_some, Option.getD_some] at HH hlk
      have HC := Aside0.mk (int_closure b0 b1 low high s w1 (hv t s hvt) h0' h1')
      try simp only at HA
      generalize hr : takeInt s low high = r at *
      obtain ⟨n, e⟩ := r
      try simp only at HA HC
      clear hr h0' h1'
      have HR : Aside0 (∀ w2, Below w1.heap.size w1 w2 → FormIs g p (F.mark t) (k + 1) w2 ∧ Turned (FormB g p) w w2) := ⟨fun w2 hb => ⟨HF1.out.below hb, HT.out.trans (Turned.of_below hb)⟩⟩
      have HE : Aside0 (∀ w2, FormIs g p (F.mark t) (k + 1) w2 → Turned (FormB g p) w w2 → FormIs g p ((F.mark t).fail t e) (k + 1) ((w2.setCell ⟨g, 3, none⟩ (.int .i64 t)).setCell ⟨g, 4, none⟩ (.int .i64 e)) ∧ Turned (FormB g p) w ((w2.setCell ⟨g, 3, none⟩ (.int .i64 t)).setCell ⟨g, 4, none⟩ (.int .i64 e))) := ⟨fun w2 h2 ht2 => ⟨h2.fail t e, (ht2.setCell (p := ⟨g, 3, none⟩) (.inl rfl) _).setCell (p := ⟨g, 4, none⟩) (.inl rfl) _⟩⟩
      by_cases ce : e = 0
      · have HA2 : Aside0 (askL (fun s => takeInt s low high) 0 F t = (n, F.mark t)) := ⟨HA.out.trans (if_pos ce)⟩
        have t2 : (e == 0) = true := by rw [ce]; rfl
        clear HA
        go_enter Tryz.func74, Tryz.ntmps74
        go_wp2_with (first | (go_at_call 57; refine HIs.out.mono ?_; rintro e w' ⟨rfl, hh⟩; obtain rfl : w = w' := hh.symm) | (go_at_call 56; refine HH.out.mono ?_; rintro e w' ⟨rfl, hh⟩; obtain rfl : w1 = w' := hh.symm) | (go_at_call 75; refine HC.out.mono ?_; rintro en w2 ⟨rfl, hb⟩; have HR2 := Aside0.mk (HR.out w2 hb); have hc32 := HR2.out.1.c3; have hc42 := HR2.out.1.c4; have hl32 := HR2.out.1.l3; have hl42 := HR2.out.1.l4; clear hb))
        go_ret
        rw [HA2.out]
        exact ⟨rfl, HR2.out.1, HR2.out.2⟩
      · have HA2 : Aside0 (askL (fun s => takeInt s low high) 0 F t = (0, (F.mark t).fail t e)) := ⟨HA.out.trans (if_neg ce)⟩
        have t2 : (e == 0) = false := by rw [beq_eq_false_iff_ne]; exact ce
        clear HA
        go_enter Tryz.func74, Tryz.ntmps74
        go_wp2_with (first | (go_at_call 57; refine HIs.out.mono ?_; rintro e w' ⟨rfl, hh⟩; obtain rfl : w = w' := hh.symm) | (go_at_call 56; refine HH.out.mono ?_; rintro e w' ⟨rfl, hh⟩; obtain rfl : w1 = w' := hh.symm) | (go_at_call 75; refine HC.out.mono ?_; rintro en w2 ⟨rfl, hb⟩; have HR2 := Aside0.mk (HR.out w2 hb); have hc32 := HR2.out.1.c3; have hc42 := HR2.out.1.c4; have hl32 := HR2.out.1.l3; have hl42 := HR2.out.1.l4; clear hb))
        go_ret
        rw [HA2.out]
        exact ⟨rfl, (HE.out w2 HR2.out.1 HR2.out.2).1, (HE.out w2 HR2.out.1 HR2.out.2).2⟩
  · have HA : Aside0 (askL (fun s => takeInt s low high) 0 F t = (0, F)) := ⟨askL_off _ _ _ _ he⟩
    have t1 : (F.e != 0) = true := by rw [bne_iff_ne]; exact he
    go_enter Tryz.func74, Tryz.ntmps74
    go_wp2_with (go_at_call 57; refine HIs.out.mono ?_; rintro e w' ⟨rfl, hh⟩; obtain rfl : w = w' := hh.symm)
    go_ret
    rw [HA.out]
    exact ⟨rfl, HF.out.mono (by omega), Turned.refl _ _⟩
set_option maxRecDepth 100000 in
set_option maxHeartbeats 4000000 in
theorem form_int (g : Nat) (p : PlS) (F : FormS) (k : Nat) (w : World) (h : FormIs g p F k w) (hk : k < 9223372036854775807) (hv : ∀ x s, F.vals x = some s → s.size ≤ 140737488351232) (t low high : Int) (ht : i64ok t) (ha : p.a < w.heap.size) :
    Calls Tryz.prog 59 #[.pointer (some ⟨g, 0, none⟩), .int .i64 t, .int .i64 low, .int .i64 high] w fun e w' =>
      e = .returned (.int .i64 (askL (fun s => takeInt s low high) 0 F t).1) ∧ FormIs g p (askL (fun s => takeInt s low high) 0 F t).2 (k + 1) w' ∧ Turned (FormB g p) w w' := by
  have hg := h.lt
  have HB : Aside0 (Below w.heap.size w ((w.alloc (.cells #[.int .i64 low] 3)).alloc (.cells #[.int .i64 high] 3))) := ⟨((Below.refl _ _).alloc (Nat.le_refl _) _).alloc (by simp) _⟩
  have HF := Aside0.mk (h.below HB.out)
  have HAk := Aside0.mk (ask_int g p F k _ HF.out hk hv t low high ht w.heap.size (w.heap.size + 1) (by simp [go_sem]) (by simp [go_sem]) (fun e => by rcases e with e | e <;> omega) (fun e => by rcases e with e | e <;> omega))
  have hmf : ∀ (fn : Fn) (first cap : Array Value) (w : World), (Instr.makeFunc fn first cap).run Tryz.prog w = .ok (.func fn first cap) w := fun _ _ _ _ => rfl
  go_enter Tryz.func59, Tryz.ntmps59
  go_wp2_with (go_at_call 74; refine HAk.out.mono ?_; rintro e w' ⟨rfl, h1, h2⟩)
  go_ret
  exact ⟨rfl, h1, (Turned.of_below HB.out).trans h2⟩
theorem askL_vals {α : Type} (take : ByteArray → α × Int) (z : α) (F : FormS) (t : Int) : (askL take z F t).2.vals = F.vals := by
  unfold askL
  split
  · rfl
  · split
    · rfl
    · split <;> rfl
theorem askL_order {α : Type} (take : ByteArray → α × Int) (z : α) (F : FormS) (t : Int) : (askL take z F t).2.order = F.order := by
  unfold askL
  split
  · rfl
  · split
    · rfl
    · split <;> rfl
theorem Turned.imp {S S' : Nat → Prop} {w w' : World} (h : Turned S w w') (hs : ∀ k, S k → S' k) : Turned S' w w' := ⟨h.os, h.tape, h.output, h.size, fun k hk hn => h.block k hk (fun e => hn (hs k e))⟩
structure PrgBox (w : World) (g : Nat) (p : PlS) (L : List S74) (b : Nat) (T : TypeId) (F : FormS) (k : Nat) (cs : Array Value) (W : World) : Prop where
  form : FormIs g p F k W
  vals : F.vals = valsOf L
  box : W.heap[b]? = some (.cells cs T (0, 0))
  low : Below w.heap.size w W
  wb : w.heap.size ≤ b
  wg : w.heap.size ≤ g
  wa : w.heap.size ≤ p.a
  bg : b ≠ g
  ba : b ≠ p.a
  bv : b ≠ p.v
  bo : ∀ a, p.A = some a → a.block ≠ b
section
variable {w : World} {g : Nat} {p : PlS} {L : List S74} {b : Nat} {T : TypeId} {F F' : FormS} {k k' : Nat} {cs : Array Value} {W W' : World}
theorem PrgBox.call (h : PrgBox w g p L b T F k cs W) (hf : FormIs g p F' k' W') (hv : F'.vals = F.vals) (ht : Turned (FormB g p) W W') : PrgBox w g p L b T F' k' cs W' :=
  ⟨hf, hv.trans h.vals, (ht.block b (blk_lt h.box) (fun e => e.elim h.bg h.ba)).trans h.box, h.low.trans (ht.below (fun j hj => hj.elim (fun e => e ▸ h.wg) (fun e => e ▸ h.wa)) h.low.size), h.wb, h.wg, h.wa, h.bg, h.ba, h.bv, h.bo⟩
theorem PrgBox.below (h : PrgBox w g p L b T F k cs W) (hb : Below W.heap.size W W') : PrgBox w g p L b T F k cs W' :=
  ⟨h.form.below hb, h.vals, blk_below h.box hb, h.low.trans (hb.mono h.low.size), h.wb, h.wg, h.wa, h.bg, h.ba, h.bv, h.bo⟩
theorem PrgBox.set (h : PrgBox w g p L b T F k cs W) (j : Nat) (v : Value) : PrgBox w g p L b T F k (cs.setIfInBounds j v) (W.setCell ⟨b, j, none⟩ v) :=
  ⟨h.form.turned (S := fun x => x = b) (Turned.setCell (S := fun x => x = b) (Turned.refl _ _) (p := ⟨b, j, none⟩) rfl _) (fun e => h.bg e.symm) (fun e => h.ba e.symm) (fun e => h.bv e.symm) (fun a ha => h.bo a ha), h.vals, blk_set h.box j v, h.low.setCell h.wb _, h.wb, h.wg, h.wa, h.bg, h.ba, h.bv, h.bo⟩
theorem PrgBox.name (h : PrgBox w g p L b T F k cs W) {t : Int} {v : ByteArray} (E : askL takeName ⟨#[]⟩ F t = (v, F')) (ht : i64ok t) (hk : k ≤ 1000) (hz : ∀ y ∈ L, y.f1.size ≤ 512) :
    Calls Tryz.prog 58 #[.pointer (some ⟨g, 0, none⟩), .int .i64 t] W fun e w' => e = .returned (.string v) ∧ PrgBox w g p L b T F' (k + 1) cs w' ∧ Turned (FormB g p) W w' := by
  have h1 := form_name g p F k W h.form (by omega) (fun x s hx => by
    rw [h.vals] at hx
    obtain ⟨y, hy, _, rfl⟩ := valsOf_mem _ _ _ hx
    have := hz y hy
    omega) t ht
  have hv := askL_vals takeName ⟨#[]⟩ F t
  rw [E] at h1 hv
  exact h1.mono fun e w' hh => ⟨hh.1, h.call hh.2.1 hv hh.2.2, hh.2.2⟩
theorem PrgBox.int (h : PrgBox w g p L b T F k cs W) {t low high : Int} {v : Int} (E : askL (fun s => takeInt s low high) 0 F t = (v, F')) (ht : i64ok t) (hk : k ≤ 1000) (hz : ∀ y ∈ L, y.f1.size ≤ 512) :
    Calls Tryz.prog 59 #[.pointer (some ⟨g, 0, none⟩), .int .i64 t, .int .i64 low, .int .i64 high] W fun e w' => e = .returned (.int .i64 v) ∧ PrgBox w g p L b T F' (k + 1) cs w' ∧ Turned (FormB g p) W w' := by
  have h1 := form_int g p F k W h.form (by omega) (fun x s hx => by
    rw [h.vals] at hx
    obtain ⟨y, hy, _, rfl⟩ := valsOf_mem _ _ _ hx
    have := hz y hy
    omega) t low high ht h.form.alt
  have hv := askL_vals (fun s => takeInt s low high) 0 F t
  rw [E] at h1 hv
  exact h1.mono fun e w' hh => ⟨hh.1, h.call hh.2.1 hv hh.2.2, hh.2.2⟩
theorem PrgBox.kind (h : PrgBox w g p L b T F k cs W) (hk : k ≤ 1000) (he : F.e = 0) {s : ByteArray} (hs : (F.vals 35).getD ⟨#[]⟩ = s) :
    Calls Tryz.prog 29 #[.pointer (some ⟨g, 0, none⟩)] W fun e w' => e = .returned (.string s) ∧ PrgBox w g p L b T (F.mark 35) (k + 1) cs w' := by
  have h1 := form_kind g p F k W h.form (by omega)
  rw [hs] at h1
  exact h1.mono fun e w' hh => ⟨hh.1, h.call (F' := F.mark 35) (hh.2.2 he).1 rfl (hh.2.2 he).2⟩
theorem PrgBox.done (h : PrgBox w g p L b T F k cs W) (hl : F.order.length ≤ 1000) {t e0 : Int} (hd : doneL F = (t, e0)) :
    Calls Tryz.prog 31 #[.pointer (some ⟨g, 0, none⟩)] W fun e w' => e = .returned (.tuple #[.int .i64 t, .int .i64 e0]) ∧ PrgBox w g p L b T F k cs w' := by
  unfold doneL at hd
  by_cases he : F.e = 0
  · rw [if_neg (by simpa using he)] at hd
    have h1 := form_done_ok g p F k W h.form he (by omega)
    rw [hd] at h1
    exact h1.mono fun e w' hh => by
      obtain ⟨h2, rfl⟩ := hh
      exact ⟨h2, h⟩
  · rw [if_pos he] at hd
    have h1 := form_done_e g p F k W h.form he
    simp only [Prod.mk.injEq] at hd
    rw [hd.1, hd.2] at h1
    exact h1.mono fun e w' hh => by
      obtain ⟨h2, q, rfl⟩ := hh
      exact ⟨h2, h.below (pw_below_drewN (Below.refl _ _) q)⟩
end
theorem low_set {w W : World} (h : Below w.heap.size w W) (i : Nat) (u : Value) : Below w.heap.size w (W.setCell ⟨w.heap.size, i, none⟩ u) := h.setCell (Nat.le_refl _) u
theorem readB_some {s : ByteArray} {F : FormS} {e : Int} (h : readB s = (some F, e)) : e = 0 ∧ F = formOf (fieldsB s) ∧ ∃ h0 : 0 < (fieldsB s).length, (fieldsB s)[0].f0 = 35 ∧ F.vals 35 = some (fieldsB s)[0].f1 := by
  unfold readB at h
  split at h
  · simp at h
  split at h
  · simp at h
  rename_i _ h2
  split at h
  · simp at h
  simp only [Prod.mk.injEq, Option.some.injEq] at h
  obtain ⟨rfl, rfl⟩ := h
  have h0 : 0 < (fieldsB s).length := by
    rcases Nat.eq_zero_or_pos (fieldsB s).length with g | g
    · exact absurd (.inl g) h2
    · exact g
  have h35 : (fieldsB s)[0].f0 = 35 := by
    have hr1 : rd_T74 (fieldsB s) 0 = (fieldsB s)[0] := by simp [rd_T74, h0]
    rw [hr1] at h2
    by_cases g : (fieldsB s)[0].f0 = 35
    · exact g
    · exact absurd (.inr g) h2
  refine ⟨rfl, rfl, h0, h35, ?_⟩
  show valsOf (fieldsB s) 35 = _
  unfold valsOf
  match hl : fieldsB s, h0, h35 with
  | x :: r, _, h35 => rw [List.find?_cons_of_pos (p := fun z : S74 => z.f0 == 35) (by simpa using h35)]; rfl
theorem asksT_order : ∀ (l : List AskT) (F : FormS), (asksT l F).2.order = F.order
  | [], _ => rfl
  | a :: r, F => by
    rw [asksT_cons]
    show (asksT r (askT a F).2).2.order = F.order
    rw [asksT_order r]
    cases a with
    | name t => exact askL_order _ _ _ _
    | int t lo hi => exact askL_order _ _ _ _
    | ints t tk => exact askL_order _ _ _ _
theorem readB_none_ne {s : ByteArray} {x : Int} (h : readB s = (none, x)) : x ≠ 0 := by
  intro e
  subst e
  unfold readB at h
  split at h
  · rename_i g; simp only [Prod.mk.injEq, true_and] at h; omega
  split at h
  · simp at h
  split at h <;> simp at h
theorem allFormsL_len (l : List (Int × List UInt8)) : (allFormsL l).1.length ≤ 40000 := by
  unfold allFormsL
  by_cases c : 64 < l.length
  · rw [if_pos c]; simp
  · rw [if_neg c]
    have := formsL_len l
    omega
theorem valsOf_none (l : List S74) (t : Int) (h : t ∉ tagsOf l) : valsOf l t = none := by
  unfold valsOf
  rw [List.find?_eq_none.2 (fun x hx => by
    intro e
    exact h (List.mem_map.2 ⟨x, hx, by simpa using e⟩))]
  rfl
theorem dupL_no : ∀ (l seen : List S74), (tagsOf (seen ++ l)).Nodup → dupL seen l = false
  | [], _, _ => rfl
  | x :: r, seen, h => by
    have hx : x.f0 ∉ tagsOf seen := by
      intro hm
      have h2 : (tagsOf seen ++ x.f0 :: tagsOf r).Nodup := by unfold tagsOf at h ⊢; simpa using h
      exact (List.nodup_append.1 h2).2.2 _ hm _ List.mem_cons_self rfl
    rw [dupL_cons, if_neg (by rw [valsOf_none seen _ hx]; decide)]
    exact dupL_no r (seen ++ [x]) (by rw [List.append_assoc]; exact h)
theorem readB_formed (L : List S74) (hn : (tagsOf L).Nodup) (h0 : 0 < L.length) (h35 : (rd_T74 L 0).f0 = 35) (hpos : ∀ x ∈ L, 0 ≤ x.f0) (he : (allFormsL (L.map pairF)).2 = 0) :
    readB ⟨(allFormsL (L.map pairF)).1.toArray⟩ = (some (formOf L), 0) := by
  unfold allFormsL at he ⊢
  by_cases c : 64 < (L.map pairF).length
  · rw [if_pos c] at he; simp at he
  rw [if_neg c] at he ⊢
  have hf := fieldsL_formed (L.map pairF) 0 0 he (by omega)
  have hb : fieldsB ⟨(formsL (L.map pairF)).1.toArray⟩ = L := by
    unfold fieldsB
    rw [show (⟨(formsL (L.map pairF)).1.toArray⟩ : ByteArray).data.toList = (formsL (L.map pairF)).1 by simp, hf]
    simp only [List.map_map]
    conv => rhs; rw [← List.map_id L]
    apply List.map_congr_left
    intro x hx
    show mkF (readF (pairF x)) = x
    have := hpos x hx
    unfold mkF readF pairF
    simp only
    rw [Int.toNat_of_nonneg this]
  unfold readB
  rw [hb, show (⟨(formsL (L.map pairF)).1.toArray⟩ : ByteArray).data.toList = (formsL (L.map pairF)).1 by simp, hf]
  simp only
  rw [if_neg (by simp), if_neg (fun h => h.elim (fun h => by omega) (fun h => h h35)), if_neg (by rw [dupL_no L [] (by simpa using hn)]; decide)]
theorem may_cons (b : UInt8) (h : b.toNat < 128) (hm : mayB b.toNat = true) (t : List UInt8) : allMay (b :: t) = allMay t := by
  rw [allMay_cons _ (by simp), dec_ascii _ _ h, hm]
  simp
theorem allMay_digs : ∀ (ds : List UInt8), (∀ x ∈ ds, isDig x) → allMay ds = true
  | [], _ => allMay_nil
  | b :: t, h => by
    have hb := h b List.mem_cons_self
    unfold isDig at hb
    rw [may_cons b (by omega) (by rw [mayB_eq]; omega)]
    exact allMay_digs t (fun x hx => h x (List.mem_cons_of_mem _ hx))
theorem nameL_may (n : Nat) : ∀ (l : List UInt8) (c : Nat), l.length ≤ n → c ≤ 20 → nameL l c = true → allMay l = true ∧ l.length ≤ 4 * (20 - c) := by
  induction n with
  | zero => intro l c h _ _; rw [List.eq_nil_of_length_eq_zero (show l.length = 0 by omega)]; exact ⟨allMay_nil, Nat.zero_le _⟩
  | succ n ih =>
    intro l c h hc hn
    by_cases hl : l = []
    · rw [hl]; exact ⟨allMay_nil, Nat.zero_le _⟩
    by_cases h20 : 20 ≤ c
    · rw [nameL_full l hl c h20] at hn; cases hn
    cases hm : mayN (dec l).1 with
    | false => rw [nameL_bad l hl c hm] at hn; cases hn
    | true =>
      rw [nameL_go l hl c (by omega) hm] at hn
      have hw := dec_width l
      have hw4 := dec_width4 l
      have hp := List.length_pos_iff.2 hl
      have h2 := ih (l.drop (dec l).2) (c + 1) (by rw [List.length_drop]; omega) (by omega) hn
      rw [List.length_drop] at h2
      rw [allMay_cons l hl, h2.1]
      have := (mayN_eq _).1 hm
      refine ⟨?_, by omega⟩
      rw [show mayB (dec l).1 = true from (mayB_eq _).2 (by omega)]; rfl
theorem nameL_value {l : List UInt8} (h : nameL l 0 = true) : valueL l = true ∧ l.length ≤ 80 := by
  obtain ⟨h1, h2⟩ := nameL_may l.length l 0 (Nat.le_refl _) (by omega) h
  have h3 : 1 ≤ l.length := by
    rcases Nat.eq_zero_or_pos l.length with g | g
    · rw [List.eq_nil_of_length_eq_zero g, nameL_nil] at h; simp at h
    · exact g
  refine ⟨?_, by omega⟩
  unfold valueL
  rw [h1, decide_eq_true h3, decide_eq_true (show l.length ≤ 512 by omega)]; rfl
theorem digs_value (n : Nat) (h : n ≤ 9223372036854775807) : valueL (digitsN n) = true := by
  unfold valueL
  rw [allMay_digs _ (digitsN_dig n), decide_eq_true (digitsN_pos n), decide_eq_true (show (digitsN n).length ≤ 512 by have := digitsN_len 19 n (by omega); omega)]; rfl
theorem formL_good (t : Int) (v : List UInt8) (h1 : 1 ≤ t) (h2 : t ≤ 99999) (hv : valueL v = true) : formL t v = (digitsN t.toNat ++ 61 :: (v ++ [1]), 0) := by
  unfold formL
  rw [if_neg (by omega), if_pos hv]
def fieldL (f : Int × List UInt8) : List UInt8 := digitsN f.1.toNat ++ 61 :: (f.2 ++ [1])
def goodF (f : Int × List UInt8) : Prop := 1 ≤ f.1 ∧ f.1 ≤ 99999 ∧ valueL f.2 = true
theorem formsL_good : ∀ l : List (Int × List UInt8), (∀ f ∈ l, goodF f) → formsL l = ((l.map fieldL).flatten, 0)
  | [], _ => rfl
  | f :: r, h => by
    obtain ⟨h1, h2, h3⟩ := h f List.mem_cons_self
    have ih := formsL_good r (fun x hx => h x (List.mem_cons_of_mem _ hx))
    unfold formsL
    rw [formL_good f.1 f.2 h1 h2 h3, ih, if_neg (by simp), if_neg (by simp)]
    rfl
theorem allFormsL_good (l : List (Int × List UInt8)) (hl : l.length ≤ 64) (h : ∀ f ∈ l, goodF f) : allFormsL l = ((l.map fieldL).flatten, 0) := by
  unfold allFormsL
  rw [if_neg (by omega)]
  exact formsL_good l h
theorem goodF_name (t : Int) (s : ByteArray) (h1 : 1 ≤ t) (h2 : t ≤ 99999) (h : nameL s.data.toList 0 = true) : goodF (t, s.data.toList) := ⟨h1, h2, (nameL_value h).1⟩
theorem goodF_num (t n : Int) (h1 : 1 ≤ t) (h2 : t ≤ 99999) (h3 : n ≤ 9223372036854775807) : goodF (t, (digitsB n).data.toList) := ⟨h1, h2, by rw [digitsB_list]; exact digs_value _ (by omega)⟩
theorem goodF_one (t : Int) (b : UInt8) (h1 : 1 ≤ t) (h2 : t ≤ 99999) (hb : b.toNat < 128) (hm : mayB b.toNat = true) : goodF (t, (⟨#[b]⟩ : ByteArray).data.toList) := ⟨h1, h2, by
  unfold valueL
  show (decide (1 ≤ [b].length) && (decide ([b].length ≤ 512) && allMay [b])) = true
  rw [may_cons b hb hm, allMay_nil]; rfl⟩
theorem goodF_two (t : Int) (b c : UInt8) (h1 : 1 ≤ t) (h2 : t ≤ 99999) (hb : b.toNat < 128) (hm : mayB b.toNat = true) (hc : c.toNat < 128) (hm2 : mayB c.toNat = true) : goodF (t, (⟨#[b, c]⟩ : ByteArray).data.toList) := ⟨h1, h2, by
  unfold valueL
  show (decide (1 ≤ [b, c].length) && (decide ([b, c].length ≤ 512) && allMay [b, c])) = true
  rw [may_cons b hb hm, may_cons c hc hm2, allMay_nil]; rfl⟩
theorem ask_name_ok {F : FormS} {t : Int} {s : ByteArray} (he : F.e = 0) (hv : F.vals t = some s) (hn : nameL s.data.toList 0 = true) : askL takeName ⟨#[]⟩ F t = (s, F.mark t) := by
  rw [askL_some takeName _ F t he hv]
  have : takeName s = (s, 0) := by unfold takeName; rw [if_pos hn]
  rw [this, if_pos rfl]
theorem doneL_ok {F : FormS} (h0 : F.e = 0) (h : spareL F.asked F.order = (0, 0)) : doneL F = (0, 0) := by
  unfold doneL
  rw [if_neg (by simpa using h0), h]
theorem dg35 : digitsN 35 = [51, 53] := by rw [digitsN_step (n := 35) (by decide), digitsN_small (n := 35 / 10) (by decide)]; rfl
theorem dg11 : digitsN 11 = [49, 49] := by rw [digitsN_step (n := 11) (by decide), digitsN_small (n := 11 / 10) (by decide)]; rfl
theorem dg55 : digitsN 55 = [53, 53] := by rw [digitsN_step (n := 55) (by decide), digitsN_small (n := 55 / 10) (by decide)]; rfl
theorem dg54 : digitsN 54 = [53, 52] := by rw [digitsN_step (n := 54) (by decide), digitsN_small (n := 54 / 10) (by decide)]; rfl
theorem dg38 : digitsN 38 = [51, 56] := by rw [digitsN_step (n := 38) (by decide), digitsN_small (n := 38 / 10) (by decide)]; rfl
theorem dg44 : digitsN 44 = [52, 52] := by rw [digitsN_step (n := 44) (by decide), digitsN_small (n := 44 / 10) (by decide)]; rfl
theorem dg41 : digitsN 41 = [52, 49] := by rw [digitsN_step (n := 41) (by decide), digitsN_small (n := 41 / 10) (by decide)]; rfl
theorem dg5001 : digitsN 5001 = [53, 48, 48, 49] := by rw [digitsN_step (n := 5001) (by decide), digitsN_step (n := 5001 / 10) (by decide), digitsN_step (n := 5001 / 10 / 10) (by decide), digitsN_small (n := 5001 / 10 / 10 / 10) (by decide)]; rfl
theorem dg5002 : digitsN 5002 = [53, 48, 48, 50] := by rw [digitsN_step (n := 5002) (by decide), digitsN_step (n := 5002 / 10) (by decide), digitsN_step (n := 5002 / 10 / 10) (by decide), digitsN_small (n := 5002 / 10 / 10 / 10) (by decide)]; rfl
theorem dg5003 : digitsN 5003 = [53, 48, 48, 51] := by rw [digitsN_step (n := 5003) (by decide), digitsN_step (n := 5003 / 10) (by decide), digitsN_step (n := 5003 / 10 / 10) (by decide), digitsN_small (n := 5003 / 10 / 10 / 10) (by decide)]; rfl
theorem dg5004 : digitsN 5004 = [53, 48, 48, 52] := by rw [digitsN_step (n := 5004) (by decide), digitsN_step (n := 5004 / 10) (by decide), digitsN_step (n := 5004 / 10 / 10) (by decide), digitsN_small (n := 5004 / 10 / 10 / 10) (by decide)]; rfl
theorem dg5005 : digitsN 5005 = [53, 48, 48, 53] := by rw [digitsN_step (n := 5005) (by decide), digitsN_step (n := 5005 / 10) (by decide), digitsN_step (n := 5005 / 10 / 10) (by decide), digitsN_small (n := 5005 / 10 / 10 / 10) (by decide)]; rfl
theorem dg5006 : digitsN 5006 = [53, 48, 48, 54] := by rw [digitsN_step (n := 5006) (by decide), digitsN_step (n := 5006 / 10) (by decide), digitsN_step (n := 5006 / 10 / 10) (by decide), digitsN_small (n := 5006 / 10 / 10 / 10) (by decide)]; rfl
theorem dg1 : digitsN 1 = [49] := by rw [digitsN_small (by decide)]; rfl
theorem info_field_e : (Tryz.prog.info? 74).map (fun i => (i.zero, i.size, i.bytes)) = some (some (.agg #[.int .i64 0, .string ⟨#[]⟩]), 2, 24) := by kernel_rfl
structure SheetIs (S : Nat → Prop) (g : Nat) (L : List S74) (w : World) : Prop where
  row : ∃ A c, w.cell? ⟨g, 0, none⟩ = some (.slice A L.length c) ∧ Kd.R k74 74 w 0 (fun k => S k ∧ k ≠ g) (.slice A L.length c) L
  free : w.frozen? ⟨g, 0, none⟩ = false
  sg : S g
  fresh : ∀ k, w.heap.size ≤ k → S k
theorem SheetIs.lt {S : Nat → Prop} {g : Nat} {L : List S74} {w : World} (h : SheetIs S g L w) : g < w.heap.size := by
  obtain ⟨A, c, hc, _⟩ := h.row
  exact World.block_lt_of_cell? w _ hc
theorem SheetIs.below {S : Nat → Prop} {g : Nat} {L : List S74} {w w' : World} (h : SheetIs S g L w) (hb : Below w.heap.size w w') : SheetIs S g L w' := by
  have hlt := h.lt
  obtain ⟨⟨A, c, hc, hR⟩, hf, hs, hfr⟩ := h
  exact ⟨⟨A, c, (World.cell?_of_block (hb.block g hlt)).trans hc, Kd.R_below hR hb⟩, (World.frozen?_of_block (w := w) (a := ⟨g, 0, none⟩) (hb.block g hlt)).trans hf, hs, fun k hk => hfr k (Nat.le_trans hb.size hk)⟩
theorem SheetIs.imp {S S' : Nat → Prop} {g : Nat} {L : List S74} {w : World} (h : SheetIs S g L w) (hs : ∀ k, k < w.heap.size → S k → S' k) (hf : ∀ k, w.heap.size ≤ k → S' k) : SheetIs S' g L w := by
  have hlt := h.lt
  obtain ⟨⟨A, c, hc, hR⟩, hz, hg, hfr⟩ := h
  exact ⟨⟨A, c, hc, Kd.R_mono (Kd.R_bound hR) (fun k hk => ⟨hs k hk.2.2.1 hk.1.1, hk.1.2⟩)⟩, hz, hs g hlt hg, hf⟩
def SheetTo (S : Nat → Prop) (g : Nat) (L : List S74) (w : World) (e : Ending) (w' : World) : Prop := e = .returned (.tuple #[]) ∧ SheetIs S g L w' ∧ Turned S w w'
structure FillAt (N g b : Nat) (cs : Array Value) (T : TypeId) (L : List S74) (W w : World) : Prop where
  sheet : SheetIs (fun k => N ≤ k ∧ k ≠ b) g L w
  box : w.heap[b]? = some (.cells cs T (0, 0))
  low : Turned (fun k => N ≤ k) W w
section
variable {N g b : Nat} {cs : Array Value} {T : TypeId} {L : List S74} {W w w' : World}
theorem FillAt.to {L' : List S74} (h : FillAt N g b cs T L W w) (hs : SheetIs (fun k => N ≤ k ∧ k ≠ b) g L' w') (ht : Turned (fun k => N ≤ k ∧ k ≠ b) w w') : FillAt N g b cs T L' W w' :=
  ⟨hs, (ht.block b (blk_lt h.box) (fun e => e.2 rfl)).trans h.box, h.low.trans (ht.imp (fun _ e => e.1))⟩
theorem FillAt.below (h : FillAt N g b cs T L W w) (hb : Below w.heap.size w w') : FillAt N g b cs T L W w' := h.to (h.sheet.below hb) (Turned.of_below hb)
theorem FillAt.tab (h : FillAt N g b cs T L W w) (hT : Aside0 (Tabs_ W)) (hN : Tabs_ W → ∀ X, Turned (fun k => N ≤ k) W X → Tabs_ X) : Aside0 (Tabs_ w) := ⟨hN hT.out w h.low⟩
end
end Go.Proofs.YtgfigkfcmkdjdaaGreatDoor.B
end
section
namespace Go.Proofs.YtgfigkfcmkdjdaaGreatDoor.B
open Go.RowKit Go.Proofs.YtgfigkfcmkdjdaaGreatDoorW.PrintWords Go.Proofs.YtgfigkfcmkdjdaaGreatDoorW.PrintLast Go.Proofs.YtgfigkfcmkdjdaaGreatDoorW.PrintMore
attribute [local go_sem] max2_int min2_int max_two min_two max_three min_three max_four min_four   -- for this text's walks alone
set_option linter.unusedVariables false
set_option linter.unusedSimpArgs false
def ask_kindOf.f (a0 : Int) : Option (ByteArray) := if a0 = 1 then (some (⟨#[68]⟩ : ByteArray)) else (if a0 = 2 then (some (⟨#[70]⟩ : ByteArray)) else (if a0 = 3 then (some (⟨#[71]⟩ : ByteArray)) else (if a0 = 4 then (some (⟨#[85, 80]⟩ : ByteArray)) else (if a0 = 5 then (some (⟨#[85, 82]⟩ : ByteArray)) else (some (⟨#[]⟩ : ByteArray))))))
set_option maxHeartbeats 8000000 in
set_option maxRecDepth 100000 in
theorem ask_kindOf.calls (a0 : Int) (r : ByteArray) (w : World) (h : ask_kindOf.f a0 = some r) :
    Calls Tryz.prog 19 #[.int .i64 a0] w fun e w' => e = .returned (.string r) ∧ Drawn0 w w' := by
  have H : (if a0 = 1 then (some (⟨#[68]⟩ : ByteArray)) else (if a0 = 2 then (some (⟨#[70]⟩ : ByteArray)) else (if a0 = 3 then (some (⟨#[71]⟩ : ByteArray)) else (if a0 = 4 then (some (⟨#[85, 80]⟩ : ByteArray)) else (if a0 = 5 then (some (⟨#[85, 82]⟩ : ByteArray)) else (some (⟨#[]⟩ : ByteArray))))))) = some r := h
  clear h
  by_cases c2 : a0 = 1
  · rw [if_pos c2] at H
    have c2b0 : (a0 == 1) = true := beq_iff_eq.mpr c2
    have c2b1 : (a0 != 1) = false := bne_eq_false_iff_eq.mpr c2
    clear c2
    obtain rfl := Option.some.inj H
    go_enter Tryz.func19, Tryz.ntmps19
    go_wp2
    go_ret
    exact ⟨by first | rfl | (simp; done) | (simp [*]; done), by repeat (first | exact Drawn0.refl _ | apply Drawn0.step)⟩
  · rw [if_neg c2] at H
    have c2b0 : (a0 == 1) = false := beq_eq_false_iff_ne.mpr c2
    have c2b1 : (a0 != 1) = true := bne_iff_ne.mpr c2
    by_cases c3 : a0 = 2
    · rw [if_pos c3] at H
      have c3b0 : (a0 == 2) = true := beq_iff_eq.mpr c3
      have c3b1 : (a0 != 2) = false := bne_eq_false_iff_eq.mpr c3
      clear c3
      obtain rfl := Option.some.inj H
      go_enter Tryz.func19, Tryz.ntmps19
      go_wp2
      go_ret
      exact ⟨by first | rfl | (simp; done) | (simp [*]; done), by repeat (first | exact Drawn0.refl _ | apply Drawn0.step)⟩
    · rw [if_neg c3] at H
      have c3b0 : (a0 == 2) = false := beq_eq_false_iff_ne.mpr c3
      have c3b1 : (a0 != 2) = true := bne_iff_ne.mpr c3
      by_cases c4 : a0 = 3
      · rw [if_pos c4] at H
        have c4b0 : (a0 == 3) = true := beq_iff_eq.mpr c4
        have c4b1 : (a0 != 3) = false := bne_eq_false_iff_eq.mpr c4
        clear c4
        obtain rfl := Option.some.inj H
        go_enter Tryz.func19, Tryz.ntmps19
        go_wp2
        go_ret
        exact ⟨by first | rfl | (simp; done) | (simp [*]; done), by repeat (first | exact Drawn0.refl _ | apply Drawn0.step)⟩
      · rw [if_neg c4] at H
        have c4b0 : (a0 == 3) = false := beq_eq_false_iff_ne.mpr c4
        have c4b1 : (a0 != 3) = true := bne_iff_ne.mpr c4
        by_cases c5 : a0 = 4
        · rw [if_pos c5] at H
          have c5b0 : (a0 == 4) = true := beq_iff_eq.mpr c5
          have c5b1 : (a0 != 4) = false := bne_eq_false_iff_eq.mpr c5
          clear c5
          obtain rfl := Option.some.inj H
          go_enter Tryz.func19, Tryz.ntmps19
          go_wp2
          go_ret
          exact ⟨by first | rfl | (simp; done) | (simp [*]; done), by repeat (first | exact Drawn0.refl _ | apply Drawn0.step)⟩
        · rw [if_neg c5] at H
          have c5b0 : (a0 == 4) = false := beq_eq_false_iff_ne.mpr c5
          have c5b1 : (a0 != 4) = true := bne_iff_ne.mpr c5
          by_cases c6 : a0 = 5
          · rw [if_pos c6] at H
            have c6b0 : (a0 == 5) = true := beq_iff_eq.mpr c6
            have c6b1 : (a0 != 5) = false := bne_eq_false_iff_eq.mpr c6
            clear c6
            obtain rfl := Option.some.inj H
            go_enter Tryz.func19, Tryz.ntmps19
            go_wp2
            go_ret
            exact ⟨by first | rfl | (simp; done) | (simp [*]; done), by repeat (first | exact Drawn0.refl _ | apply Drawn0.step)⟩
          · rw [if_neg c6] at H
            have c6b0 : (a0 == 5) = false := beq_eq_false_iff_ne.mpr c6
            have c6b1 : (a0 != 5) = true := bne_iff_ne.mpr c6
            obtain rfl := Option.some.inj H
            go_enter Tryz.func19, Tryz.ntmps19
            go_wp2
            go_ret
            exact ⟨by first | rfl | (simp; done) | (simp [*]; done), by repeat (first | exact Drawn0.refl _ | apply Drawn0.step)⟩
end Go.Proofs.YtgfigkfcmkdjdaaGreatDoor.B
end
section
namespace Go.Proofs.YtgfigkfcmkdjdaaGreatDoor.B
open Go.RowKit Go.Proofs.YtgfigkfcmkdjdaaGreatDoorW.PrintWords Go.Proofs.YtgfigkfcmkdjdaaGreatDoorW.PrintLast Go.Proofs.YtgfigkfcmkdjdaaGreatDoorW.PrintMore
attribute [local go_sem] max2_int min2_int max_two min_two max_three min_three max_four min_four   -- for this text's walks alone
set_option linter.unusedVariables false
set_option linter.unusedSimpArgs false
def ask_numbers.l0 : Nat → List ByteArray → List Int → Int → Int → Option (ByteArray)
  | 0, _, _, _, _ => none
  | k + 1, x3, x6, x7, x8 => if x8 < x7 then (if 0 ≤ x8 then (if x8 < (x6.length : Int) then ((strconv_Itoa.f (rd x6 x8)).bind fun t105 => (if x3.length < 8796093022208 then (ask_numbers.l0 k (x3 ++ [t105]) x6 x7 (wrap64 (x8 + 1))) else (none))) else (none)) else (none)) else ((strings_Join.f x3 (⟨#[44]⟩ : ByteArray)).bind fun t109 => (some t109))
def ask_numbers.f (k : Nat) (l0 : List Int) : Option (ByteArray) := ask_numbers.l0 k ([] : List ByteArray) l0 (l0.length : Int) 0
theorem ask_numbers.mono_l : ∀ k, (∀ y0 y1 y2 y3, LeO (ask_numbers.l0 k y0 y1 y2 y3) (ask_numbers.l0 (k + 1) y0 y1 y2 y3))
  | 0 => fun _ _ _ _ r h => by simp [ask_numbers.l0] at h
  | k + 1 => by
    have ih0 := ask_numbers.mono_l k
    · intro y0 y1 y2 y3
      unfold ask_numbers.l0
      repeat' first
      | (with_reducible exact ih0 _ _ _ _)
      | (with_reducible exact LeO.refl _)
      | (with_reducible exact LeO.none _)
      | (with_reducible refine LeO.ite ?_ ?_)
      | (with_reducible refine LeO.bind ?_ (fun _ => ?_))
      | exact ih0 _ _ _ _
      | exact LeO.none _
      | refine LeO.ite ?_ ?_
      | refine LeO.bind ?_ (fun _ => ?_)
theorem ask_numbers.mono : ∀ a0 k, LeO (ask_numbers.f k a0) (ask_numbers.f (k + 1) a0) := by
  intro a0 k
  have ih0 := ask_numbers.mono_l k
  unfold ask_numbers.f
  repeat' first
      | (with_reducible exact ih0 _ _ _ _)
      | (with_reducible exact LeO.refl _)
      | (with_reducible exact LeO.none _)
      | (with_reducible refine LeO.ite ?_ ?_)
      | (with_reducible refine LeO.bind ?_ (fun _ => ?_))
      | exact ih0 _ _ _ _
      | exact LeO.none _
      | refine LeO.ite ?_ ?_
      | refine LeO.bind ?_ (fun _ => ?_)
set_option maxHeartbeats 8000000 in
set_option maxRecDepth 100000 in
theorem ask_numbers.calls (k : Nat) (A0 : Option Addr) (c0 : Nat) (l0 : List Int) (r : ByteArray) (w : World) (hT_ : Aside0 (Tabs_ w)) (hr0 : Kd.C (Kd.int .i64) w A0 l0.length l0) (hc0 : l0.length ≤ c0) (h : ask_numbers.f k l0 = some r) :
    Calls Tryz.prog 69 #[.slice A0 l0.length c0] w fun e w' => e = .returned (.string r) ∧ Below w.heap.size w w' := by
  have HR0 := Aside0.mk hr0
  have HC0 := Aside0.mk hc0
  clear hr0 hc0
  have HB := Aside0.mk (Below.refl w.heap.size w)
  have H : (ask_numbers.l0 k ([] : List ByteArray) l0 (l0.length : Int) 0) = some r := h
  clear h
  have H' := Aside0.mk H
  clear H
  go_enter Tryz.func69, Tryz.ntmps69
  go_wp2
  go_loopg [3, 8] k (fun kq v3 v8 w' => ∃ (x3_1 : List ByteArray) (x8_1 : Int), v8 = .int .i64 x8_1 ∧ Aside0 (ask_numbers.l0 kq x3_1 l0 (l0.length : Int) x8_1 = some r) ∧ Aside0 (kq ≤ k) ∧ Aside0 (Kd.R Kd.string 9 w' w.heap.size (fun _ => True) v3 x3_1) ∧ Aside0 (Below w.heap.size w w'))
  case atStart => exact ⟨(([] : List ByteArray)), (0), (by first | rfl | (simp; done) | (simp [*]; done)), H', ⟨Nat.le_refl _⟩, ⟨by first | exact Kd.R_nil _ _ _ _ _ | exact Kd.N_nil _ _ _ _ _ | exact Kd.V_nil _ _ _ _ _ | exact Kd.Q_nil _ _ _ _ _ | exact Kd.S_nil _ _ _ _ _⟩, ⟨by repeat (first | (with_reducible first | exact HB.out | apply below_alloc | apply pw_below_drewN | apply below_drew1) | exact HB.out)⟩⟩
  case round =>
    clear H'
    obtain ⟨x3_1, x8_1, rfl, HA, HK1, HO_3, HB⟩ := hrel
    cases gk with
    | zero => exact absurd HA.out (by simp [ask_numbers.l0])
    | succ k1 =>
      have H := HA.out
      clear HA
      simp only [ask_numbers.l0] at H
      by_cases c2 : x8_1 < (l0.length : Int)
      · rw [if_pos c2] at H
        have c2b0 : decide (x8_1 < (l0.length : Int)) = true := decide_eq_true c2
        clear c2
        by_cases c3 : 0 ≤ x8_1
        · rw [if_pos c3] at H
          have c3b0 : decide (0 ≤ x8_1) = true := decide_eq_true c3
          clear c3
          by_cases c4 : x8_1 < (l0.length : Int)
          · rw [if_pos c4] at H
            have c4b0 : decide (x8_1 < (l0.length : Int)) = true := decide_eq_true c4
            clear c4
            replace H := Option.bind_eq_some_iff.mp H
            obtain ⟨t105, A50, H⟩ := H
            replace H : (if x3_1.length < 8796093022208 then (ask_numbers.l0 k1 (x3_1 ++ [t105]) l0 (l0.length : Int) (wrap64 (x8_1 + 1))) else (none)) = some r := H
            have A5 := Aside0.mk A50
            clear A50
            by_cases c6 : x3_1.length < 8796093022208
            · rw [if_pos c6] at H
              have LMc6 := Aside0.mk c6
              clear c6
              obtain ⟨y106, hy106⟩ : ∃ y_ : List ByteArray, y_ = (x3_1 ++ [t105]) := ⟨_, rfl⟩
              replace H : (ask_numbers.l0 k1 y106 l0 (l0.length : Int) (wrap64 (x8_1 + 1))) = some r := by first | (rw [hy106]; with_reducible exact H) | (have H2_ := (Option.bind_some _ _).symm.trans H; rw [hy106]; with_reducible exact H2_) | (have H2_ := (Option.bind_some _ _).symm.trans H; with_reducible exact H2_) | with_reducible exact H | (rw [hy106]; exact H) | exact H
              have Ny106 := Aside0.mk hy106
              clear hy106
              have H' := Aside0.mk H
              clear H
              have p104 : 0 ≤ (x8_1 : Int) := of_decide_eq_true (by first | (with_reducible assumption) | assumption)
              have q104 : x8_1 < (l0.length : Int) := of_decide_eq_true (by first | (with_reducible assumption) | assumption)
              obtain ⟨ad104, e104, hx104_0⟩ := Kd.at_int HR0.out x8_1 p104 q104
              cases e104
              replace hx104_0 := (HB.out.cell (World.block_lt_of_cell? w _ hx104_0)).trans hx104_0
              replace p104 := eq_true p104
              replace q104 := eq_true q104
              go_wp2_with (first | ((with_reducible refine gate_callee (f := 67) rfl ?_); refine goesL_ (some 14) rfl rfl Tryz.func67 (by kernel_rfl) rfl #[.int .i64 (rd l0 x8_1)] rfl (by (try simp only [List.map_toArray, List.map_cons, List.map_nil]); first | done | rfl | (simp only [List.length_drop, List.length_take]; rfl)) ?_; (with_reducible refine (strconv_Itoa.calls (rd l0 x8_1) t105 _ ?side1 A5.out).mono ?_); (case side1 => exact Aside0.mk (Tabs_.below hT_.out (by repeat (first | (with_reducible first | exact HB.out | apply below_alloc | apply pw_below_drewN | apply below_drew1) | exact HB.out)))); rintro e w7 ⟨rfl, hb⟩; refine ⟨_, rfl, ?_⟩; have n0_ := Aside0.mk (Kd.R_below (by (with_reducible repeat (first | apply Kd.R_alloc | apply Kd.R_drewN | apply Kd.R_drew)); exact HO_3.out) hb); have n1_ := Aside0.mk (below_step (by repeat (first | (with_reducible first | exact HB.out | apply below_alloc | apply pw_below_drewN | apply below_drew1) | exact HB.out)) hb); clear HO_3; clear HB; have HO_3 := n0_; have HB := n1_; clear n0_ n1_; (try clear hb); (try clear hb2); (try clear hk); (try clear hi)) | ((with_reducible refine gate_builtin (b := .append) (xs := #[.tmp 12, .tmp 15]) rfl ?_); at_builtin; refine Kd.R_append Kd.string (w0 := w) w.heap.size rfl (.tmp 12) (.tmp 15) 129 9 (.string ⟨#[]⟩) 16 rfl Tryz.underlying129 info9 rfl (by decide) (by omega) u3 x3_1 t105 [.string t105] (fun _ => True) (fun _ => False) rfl rfl ?aP (fun _ hk => hk.elim) ?aF ?aO ?aB ?aS ?aL ?_; (case aP => exact rfl); (case aB => exact (by repeat (first | (with_reducible first | exact HB.out | apply below_alloc | apply pw_below_drewN | apply below_drew1) | exact HB.out))); (case aF => exact (fun _ _ => trivial)); (case aO => exact (by (with_reducible repeat (first | apply Kd.R_alloc | apply Kd.R_drewN | apply Kd.R_drew)); exact HO_3.out)); (case aS => exact (below_size (by repeat (first | (with_reducible first | exact HB.out | apply below_alloc | apply pw_below_drewN | apply below_drew1) | exact HB.out)))); (case aL => have := LMc6.out; omega); intro v107 w8 ho hb hg hat; rw [← Ny106.out] at ho; have n0_ := Aside0.mk (hb); have n1_ := Aside0.mk (ho); clear HB; clear HO_3; have HB := n0_; have HO108 := n1_; clear n0_ n1_; clear ho hb hg hat))
              go_roundg k1
              case measure => have := HK1.out; omega
              case rel => exact ⟨(y106), (wrap64 (x8_1 + 1)), (by first | rfl | (simp; done) | (simp [*]; done)), H', ⟨by have := HK1.out; omega⟩, ⟨by (with_reducible repeat (first | apply Kd.R_alloc | apply Kd.R_drewN | apply Kd.R_drew)); exact HO108.out⟩, ⟨by repeat (first | (with_reducible first | exact HB.out | apply below_alloc | apply pw_below_drewN | apply below_drew1) | exact HB.out)⟩⟩
            · rw [if_neg c6] at H
              exact absurd H (by simp)
          · rw [if_neg c4] at H
            exact absurd H (by simp)
        · rw [if_neg c3] at H
          exact absurd H (by simp)
      · rw [if_neg c2] at H
        have c2b0 : decide (x8_1 < (l0.length : Int)) = false := decide_eq_false c2
        clear c2
        replace H := Option.bind_eq_some_iff.mp H
        obtain ⟨t109, A90, H⟩ := H
        replace H : (some t109) = some r := H
        have A9 := Aside0.mk A90
        clear A90
        obtain rfl := Option.some.inj H
        obtain ⟨Ao10, co10, eo10⟩ := Kd.R_slice HO_3.out
        subst eo10
        go_wp2_with (first | ((with_reducible refine gate_callee (f := 88) rfl ?_); refine goesL_ (some 19) rfl rfl Tryz.func88 (by kernel_rfl) rfl #[.slice Ao10 x3_1.length co10, .string (⟨#[44]⟩ : ByteArray)] rfl (by (try simp only [List.map_toArray, List.map_cons, List.map_nil]); first | done | rfl | (simp only [List.length_drop, List.length_take]; rfl)) ?_; (with_reducible refine (strings_Join.calls _ _ x3_1 (⟨#[44]⟩ : ByteArray) t109 _ ?side1 ?side2 A9.out).mono ?_); (case side1 => repeat (first | exact (Kd.R_reads' HO_3.out).2.2 | (with_reducible refine Kd.C_alloc ?_ _) | (with_reducible refine Kd.C_drewN ?_ _) | (with_reducible refine Kd.C_drew ?_))); (case side2 => exact (Kd.R_reads' HO_3.out).2.1); rintro e w11 ⟨rfl, hb⟩; refine ⟨_, rfl, ?_⟩; have n0_ := Aside0.mk (Kd.R_below (by (with_reducible repeat (first | apply Kd.R_alloc | apply Kd.R_drewN | apply Kd.R_drew)); exact HO_3.out) hb); have n1_ := Aside0.mk (below_step (by repeat (first | (with_reducible first | exact HB.out | apply below_alloc | apply pw_below_drewN | apply below_drew1) | exact HB.out)) hb); clear HO_3; clear HB; have HO_3 := n0_; have HB := n1_; clear n0_ n1_; (try clear hb); (try clear hb2); (try clear hk); (try clear hi)))
        go_ret
        exact ⟨by first | rfl | (simp [errW_none, errW_some] <;> rfl) | (simp [*, errW_none, errW_some] <;> rfl), by repeat (first | (with_reducible first | exact HB.out | apply below_alloc | apply pw_below_drewN | apply below_drew1) | exact HB.out)⟩
end Go.Proofs.YtgfigkfcmkdjdaaGreatDoor.B
end
