/- The functions that the law reaches, as plain Lean functions, and their contracts: texts merged. -/
import Derived.Laws.StructEq
import Derived.Test.YtbkpkfbdpmjgoaaDoorzBodyWhole2
import Derived.Test.YtbkpkfbdpmjgoaaDoorzBodyWhole0
import Derived.Test.YtbkpkfbdpmjgoaaDoorzBodyWhole1
import Derived.Test.YtbkpkfbdpmjgoaaDoorzBodyWhole3
section
namespace Go.Proofs.YtbkpkfbdpmjgoaaDoor.T
open Go.RowKit Go.Proofs.YtbkpkfbdpmjgoaaDoorW.PrintWords Go.Proofs.YtbkpkfbdpmjgoaaDoorW.PrintLast Go.Proofs.YtbkpkfbdpmjgoaaDoorW.PrintMore
attribute [local go_sem] max2_int min2_int max_two min_two max_three min_three max_four min_four   -- for this text's walks alone
set_option linter.unusedVariables false
set_option linter.unusedSimpArgs false
theorem i64_35 : i64ok 35 := i64ok_of (by decide) (by decide)
set_option maxRecDepth 100000 in
theorem form_is (g : Nat) (p : PlS) (F : FormS) (k : Nat) (w : World) (h : FormIs g p F k w) :
    Calls Tryd.prog 27 #[.pointer (some ⟨g, 0, none⟩)] w fun e w' => e = .returned (.bool true) ∧ w' = w := by
  have h1 := h.c1
  have hm := map_ne p.v w
  go_enter Tryd.func27, Tryd.ntmps27
  go_wp2
  go_ret
  exact ⟨rfl, rfl⟩
theorem form_has (g : Nat) (p : PlS) (F : FormS) (k : Nat) (w : World) (h : FormIs g p F k w) (t : Int) (ht : i64ok t) :
    Calls Tryd.prog 16 #[.pointer (some ⟨g, 0, none⟩), .int .i64 t] w fun e w' => e = .returned (.bool (F.vals t).isSome) ∧ w' = w := by
  have h1 := h.c1
  have hl := h.vals.has t ht
  go_enter Tryd.func16, Tryd.ntmps16
  go_wp2
  go_ret
  exact ⟨rfl, rfl⟩
set_option maxRecDepth 100000 in
theorem form_kind (g : Nat) (p : PlS) (F : FormS) (k : Nat) (w : World) (h : FormIs g p F k w) (hk : k < 9223372036854775807) :
    Calls Tryd.prog 15 #[.pointer (some ⟨g, 0, none⟩)] w fun e w' => e = .returned (.string ((F.vals 35).getD ⟨#[]⟩)) ∧
      (F.e ≠ 0 → w' = w) ∧ (F.e = 0 → FormIs g p { F with asked := fun x => if x = 35 then true else F.asked x } (k + 1) w' ∧ Turned (FormB g p) w w') := by
  have h1 := h.c1
  have h2 := h.c2
  have h4 := h.c4
  have hl := h.vals.look 35 i64_35
  have HF := Aside0.mk h
  have HIs := Aside0.mk (form_is g p F k w h)
  by_cases c : F.e = 0
  · have t1 : (F.e == 0) = true := by rw [c]; rfl
    obtain ⟨w1, hrun, hA, hgr⟩ := h.asked.put 35 i64_35 hk
    have HT : Aside0 (Turned (FormB g p) w w1) := ⟨Turned.of_grown hgr (.inr rfl)⟩
    have HF1 := Aside0.mk (h.ask hA hgr)
    have hv1 := HF1.out.vals.look 35 i64_35
    have h11 := HF1.out.c1
    clear hgr hA
    go_enter Tryd.func15, Tryd.ntmps15
    go_wp2_with (go_at_call 27; refine HIs.out.mono ?_; rintro e w' ⟨rfl, rfl⟩)
    go_ret
    exact ⟨rfl, fun e => absurd c e, fun _ => ⟨HF1.out, HT.out⟩⟩
  · have t1 : (F.e == 0) = false := by rw [beq_eq_false_iff_ne]; exact c
    go_enter Tryd.func15, Tryd.ntmps15
    go_wp2_with (go_at_call 27; refine HIs.out.mono ?_; rintro e w' ⟨rfl, rfl⟩)
    go_ret
    exact ⟨rfl, fun _ => rfl, fun e => absurd e c⟩
set_option maxRecDepth 100000 in
theorem form_done_e (g : Nat) (p : PlS) (F : FormS) (k : Nat) (w : World) (h : FormIs g p F k w) (he : F.e ≠ 0) :
    Calls Tryd.prog 14 #[.pointer (some ⟨g, 0, none⟩)] w fun e w' => e = .returned (.tuple #[.int .i64 F.tag, .int .i64 F.e]) ∧ ∃ q, w' = w.drewN q := by
  have h3 := h.c3
  have h4 := h.c4
  have HIs := Aside0.mk (form_is g p F k w h)
  have t1 : (F.e == 0) = false := by rw [beq_eq_false_iff_ne]; exact he
  have t2 : (F.e != 0) = true := by rw [bne_iff_ne]; exact he
  go_enter Tryd.func14, Tryd.ntmps14
  go_wp2_with (go_at_call 27; refine HIs.out.mono ?_; rintro e w' ⟨rfl, rfl⟩)
  go_quiet (fail)
  go_wp2
  go_ret2
  exact ⟨rfl, _, rfl⟩
def spareL (asked : Int → Bool) : List Int → Int × Int
  | [] => (0, 0)
  | t :: r => if asked t then spareL asked r else (t, 113)
theorem spareL_cons (asked : Int → Bool) (t : Int) (r : List Int) : spareL asked (t :: r) = if asked t then spareL asked r else (t, 113) := rfl
set_option maxRecDepth 100000 in
set_option maxHeartbeats 4000000 in
theorem form_done_ok (g : Nat) (p : PlS) (F : FormS) (k : Nat) (w : World) (h : FormIs g p F k w) (he : F.e = 0) (hlen : F.order.length ≤ 4611686018427387904) :
    Calls Tryd.prog 14 #[.pointer (some ⟨g, 0, none⟩)] w fun e w' => e = .returned (.tuple #[.int .i64 (spareL F.asked F.order).1, .int .i64 (spareL F.asked F.order).2]) ∧ w' = w := by
  have h0 := h.c0
  have h2 := h.c2
  have h4 := h.c4
  have HF := Aside0.mk h
  have HIs := Aside0.mk (form_is g p F k w h)
  have t2 : (F.e != 0) = false := by rw [he]; rfl
  go_enter Tryd.func14, Tryd.ntmps14
  go_wp2_with (go_at_call 27; refine HIs.out.mono ?_; rintro e w' ⟨rfl, hh⟩; obtain rfl : w = w' := hh.symm)
  go_loopw [29] (fun v29 wr => ∃ i : Nat, v29 = .int .i64 (i : Int) ∧ i ≤ F.order.length ∧ wr = w ∧ Aside0 (spareL F.asked (F.order.drop i) = spareL F.asked F.order)) (fun v29 _ => F.order.length - (intOf v29).toNat)
  case atStart => exact ⟨0, rfl, Nat.zero_le _, rfl, ⟨rfl⟩⟩
  case round =>
    obtain ⟨i, rfl, hi, rfl, HA⟩ := hrel
    by_cases hlt : i < F.order.length
    · obtain ⟨ad, hA, hc, ht⟩ := HF.out.ord i hlt
      have t1 : decide ((i : Int) < (F.order.length : Int)) = true := by rw [decide_eq_true_eq]; omega
      have hl := HF.out.asked.look _ ht
      have hd : F.order.drop i = F.order.getD i 0 :: F.order.drop (i + 1) := by
        rw [List.drop_eq_getElem_cons hlt, List.getD_eq_getElem?_getD, List.getElem?_eq_getElem hlt]; rfl
      rw [hA] at h0
      rw [hA]
      rw [hd, spareL_cons] at HA
      generalize hx : F.order.getD i 0 = x at *
      by_cases ca : F.asked x = true
      · have HA2 : Aside0 (spareL F.asked (F.order.drop (i + 1)) = spareL F.asked F.order) := ⟨by have h1 := HA.out; rw [if_pos ca] at h1; exact h1⟩
        clear HA hd hx ht hA
        rw [ca] at hl
        go_wp2
        refine ⟨⟨i + 1, by rw [show ((i + 1 : Nat) : Int) = (i : Int) + 1 by omega], by omega, trivial, HA2⟩, ?_⟩
        show F.order.length - ((i : Int) + 1).toNat < F.order.length - ((i : Int)).toNat
        omega
      · have ca' : F.asked x = false := by simpa using ca
        have HA2 : Aside0 ((x, (113 : Int)) = spareL F.asked F.order) := ⟨by have h1 := HA.out; rw [if_neg ca] at h1; exact h1⟩
        clear HA hd hx ht hA
        rw [ca'] at hl
        go_wp2
        go_ret2
        rw [← HA2.out]
        exact ⟨rfl, rfl⟩
    · have t1 : decide ((i : Int) < (F.order.length : Int)) = false := by rw [decide_eq_false_iff_not]; omega
      have HA2 : Aside0 (((0 : Int), (0 : Int)) = spareL F.asked F.order) := ⟨by have h1 := HA.out; rw [List.drop_eq_nil_of_le (by omega)] at h1; exact h1⟩
      clear HA
      go_wp2
      go_ret2
      rw [← HA2.out]
      exact ⟨rfl, rfl⟩
end Go.Proofs.YtbkpkfbdpmjgoaaDoor.T
end
section
namespace Go.Proofs.YtbkpkfbdpmjgoaaDoor.T
open Go.RowKit Go.Proofs.YtbkpkfbdpmjgoaaDoorW.PrintWords Go.Proofs.YtbkpkfbdpmjgoaaDoorW.PrintLast Go.Proofs.YtbkpkfbdpmjgoaaDoorW.PrintMore
attribute [local go_sem] max2_int min2_int max_two min_two max_three min_three max_four min_four   -- for this text's walks alone
set_option linter.unusedVariables false
set_option linter.unusedSimpArgs false
def mayN (r : Nat) : Bool := decide (33 ≤ r) && (r != 127 && (r != 61 && r != 65533))
theorem mayN_eq (r : Nat) : mayN r = true ↔ 33 ≤ r ∧ r ≠ 127 ∧ r ≠ 61 ∧ r ≠ 65533 := by simp [mayN]
def nameL (l : List UInt8) (n : Nat) : Bool := if _h : l = [] then decide (0 < n) else if 20 ≤ n then false else if mayN (dec l).1 = true then nameL (l.drop (dec l).2) (n + 1) else false
termination_by l.length
decreasing_by all_goals (have := dec_width l; have := List.length_pos_iff.2 _h; simp only [List.length_drop]; omega)
theorem nameL_nil (n : Nat) : nameL [] n = decide (0 < n) := by rw [nameL]; rfl
theorem nameL_full (l : List UInt8) (h : l ≠ []) (n : Nat) (hn : 20 ≤ n) : nameL l n = false := by rw [nameL, dif_neg h, if_pos hn]
theorem nameL_bad (l : List UInt8) (h : l ≠ []) (n : Nat) (hm : mayN (dec l).1 = false) : nameL l n = false := by
  rw [nameL, dif_neg h]
  split
  · rfl
  · rw [if_neg (by rw [hm]; decide)]
theorem nameL_go (l : List UInt8) (h : l ≠ []) (n : Nat) (hn : n < 20) (hm : mayN (dec l).1 = true) : nameL l n = nameL (l.drop (dec l).2) (n + 1) := by
  conv => lhs; rw [nameL]
  rw [dif_neg h, if_neg (by omega), if_pos hm]
theorem roster_may_same (r : Nat) (hr : r ≤ 2147483647) (w : World) :
    Calls Tryd.prog 43 #[.int .i32 (r : Int)] w fun e w' => e = .returned (.bool (mayN r)) ∧ w = w' := by
  by_cases c1 : r < 33
  · have hv : mayN r = false := by unfold mayN; simp; omega
    have t1 : decide ((33 : Int) ≤ (r : Int)) = false := by rw [decide_eq_false_iff_not]; omega
    rw [hv]
    clear hv c1
    go_enter Tryd.func43, Tryd.ntmps43
    go_wp2
    go_ret
    exact ⟨rfl, rfl⟩
  have t1 : decide ((33 : Int) ≤ (r : Int)) = true := by rw [decide_eq_true_eq]; omega
  by_cases c2 : r = 127
  · subst c2
    go_enter Tryd.func43, Tryd.ntmps43
    go_wp2
    go_ret
    exact ⟨rfl, rfl⟩
  by_cases c4 : r = 61
  · subst c4
    go_enter Tryd.func43, Tryd.ntmps43
    go_wp2
    go_ret
    exact ⟨rfl, rfl⟩
  by_cases c3 : r = 65533
  · subst c3
    go_enter Tryd.func43, Tryd.ntmps43
    go_wp2
    go_ret
    exact ⟨rfl, rfl⟩
  have hv : mayN r = true := by rw [mayN_eq]; omega
  have t2 : ((r : Int) == 127) = false := by rw [beq_eq_false_iff_ne]; omega
  have t3 : ((r : Int) != 127) = true := by rw [bne_iff_ne]; omega
  have t4 : ((r : Int) == 65533) = false := by rw [beq_eq_false_iff_ne]; omega
  have t5 : ((r : Int) != 65533) = true := by rw [bne_iff_ne]; omega
  have t6 : ((r : Int) == 61) = false := by rw [beq_eq_false_iff_ne]; omega
  have t7 : ((r : Int) != 61) = true := by rw [bne_iff_ne]; omega
  rw [hv]
  clear hv c1 c2 c3 c4
  go_enter Tryd.func43, Tryd.ntmps43
  go_wp2
  go_ret
  exact ⟨rfl, rfl⟩
def NameIs (b : Bool) (w : World) (e : Ending) (w' : World) : Prop := e = .returned (.bool b) ∧ Below w.heap.size w w'
theorem NameIs.mk_ {a b : Bool} {w w' : World} (h : a = b) (hw : Below w.heap.size w w') : NameIs b w (.returned (.bool a)) w' := by subst h; exact ⟨rfl, hw⟩
set_option maxRecDepth 100000 in
set_option maxHeartbeats 1000000 in
theorem roster_Valid_walk (s : ByteArray) (w : World) (hs : s.size ≤ 9223372036854775807) :
    Calls Tryd.prog 30 #[.string s] w (NameIs (nameL s.data.toList 0) w) := by
  have HB : Aside0 (∀ p, Below w.heap.size w (w.iter s p)) := ⟨fun p => (Below.refl _ _).alloc (Nat.le_refl _) _⟩
  go_enter Tryd.func30, Tryd.ntmps30
  go_wp2
  go_loopw [3] (fun v3 w' => ∃ pos n : Nat, w' = w.iter s pos ∧ v3 = .int .i64 (n : Int) ∧ n ≤ 20 ∧ Aside0 (nameL (s.data.toList.drop pos) n = nameL s.data.toList 0)) (fun _ w' => s.size - w'.iterPos w.heap.size)
  case atStart => exact ⟨0, 0, rfl, rfl, by omega, ⟨rfl⟩⟩
  case round =>
    obtain ⟨pos, n, rfl, rfl, hn, hA⟩ := hrel
    by_cases hp : pos < s.size
    · have hnx : ∀ ty, (Instr.next (.pointer (some ⟨w.heap.size, 0, none⟩)) true ty).run Tryd.prog (w.iter s pos) = _ := fun ty => run_next_any w s pos ty hp
      have hle := decode_le s pos
      have hne := drop_ne_nil s pos hp
      have hwd := dec_width (s.data.toList.drop pos)
      by_cases c20 : 20 ≤ n
      · have hn20 : n = 20 := by omega
        subst hn20
        have HS := Aside0.mk ((nameL_full _ hne 20 (by omega)).symm.trans hA.out)
        clear hA hne hwd c20
        generalize (Utf8.decode s pos).1 = r at *
        generalize (Utf8.decode s pos).2 = wd at *
        go_wp2
        go_ret
        exact NameIs.mk_ HS.out (HB.out _)
      · have t1 : decide ((20 : Int) < (n : Int) + 1) = false := by rw [decide_eq_false_iff_not]; omega
        have t1' : decide (20 < n + 1) = false := by rw [decide_eq_false_iff_not]; omega
        cases hm : mayN (dec (s.data.toList.drop pos)).1 with
        | false =>
          have HS := Aside0.mk ((nameL_bad _ hne n hm).symm.trans hA.out)
          rw [dec_drop] at hm
          clear hA hne hwd
          generalize (Utf8.decode s pos).1 = r at *
          generalize (Utf8.decode s pos).2 = wd at *
          have HM : Aside0 (∀ w, Calls Tryd.prog 43 #[.int .i32 (r : Int)] w fun e w' => e = .returned (.bool false) ∧ w = w') := ⟨fun w => by rw [← hm]; exact roster_may_same r hle w⟩
          clear hm
          go_wp2_with (go_at_call 43; refine (HM.out _).mono ?_; rintro e w1 ⟨rfl, rfl⟩)
          go_ret
          exact NameIs.mk_ HS.out (HB.out _)
        | true =>
          have HS := Aside0.mk ((nameL_go _ hne n (by omega) hm).symm.trans hA.out)
          rw [dec_drop] at hm hwd
          rw [dec_drop, List.drop_drop] at HS
          clear hA hne
          generalize (Utf8.decode s pos).1 = r at *
          generalize (Utf8.decode s pos).2 = wd at *
          have HM : Aside0 (∀ w, Calls Tryd.prog 43 #[.int .i32 (r : Int)] w fun e w' => e = .returned (.bool true) ∧ w = w') := ⟨fun w => by rw [← hm]; exact roster_may_same r hle w⟩
          clear hm
          go_wp2_with (go_at_call 43; refine (HM.out _).mono ?_; rintro e w1 ⟨rfl, rfl⟩)
          go_roundw
          case rel => exact ⟨pos + wd, n + 1, rfl, by rw [show ((n + 1 : Nat) : Int) = (n : Int) + 1 by omega], by omega, HS⟩
          case measure => simp; omega
    · have hnx : ∀ ty, (Instr.next (.pointer (some ⟨w.heap.size, 0, none⟩)) true ty).run Tryd.prog (w.iter s pos) = _ := fun ty => run_next_end w s pos ty hp
      have HS := Aside0.mk (hA.out.symm.trans (by rw [drop_nil_of s pos hp, nameL_nil]))
      clear hA
      go_wp2
      go_ret
      exact NameIs.mk_ (by rw [HS.out]) (HB.out _)
end Go.Proofs.YtbkpkfbdpmjgoaaDoor.T
end
section
namespace Go.Proofs.YtbkpkfbdpmjgoaaDoor.T
open Go.RowKit Go.Proofs.YtbkpkfbdpmjgoaaDoorW.PrintWords Go.Proofs.YtbkpkfbdpmjgoaaDoorW.PrintLast Go.Proofs.YtbkpkfbdpmjgoaaDoorW.PrintMore
attribute [local go_sem] max2_int min2_int max_two min_two max_three min_three max_four min_four   -- for this text's walks alone
set_option linter.unusedVariables false
set_option linter.unusedSimpArgs false
def takeName (s : ByteArray) : ByteArray × Int := if nameL s.data.toList 0 = true then (s, 0) else (⟨#[]⟩, 43)
theorem name_closure (s : ByteArray) (W : World) (hs : s.size ≤ 140737488351232) :
    Calls Tryd.prog 29 (#[.string s] ++ #[]) W fun e w' => e = .returned (.tuple #[.string (takeName s).1, .int .i64 (takeName s).2]) ∧ Below W.heap.size W w' := by
  have HN := Aside0.mk (roster_Valid_walk s W (by omega))
  unfold takeName
  generalize nameL s.data.toList 0 = b at *
  cases b with
  | true =>
    go_enter Tryd.func29, Tryd.ntmps29
    go_wp2_with (go_at_call 30; refine HN.out.mono ?_; rintro en w1 ⟨rfl, hb⟩)
    go_ret2
    exact ⟨rfl, hb⟩
  | false =>
    go_enter Tryd.func29, Tryd.ntmps29
    go_wp2_with (go_at_call 30; refine HN.out.mono ?_; rintro en w1 ⟨rfl, hb⟩)
    go_ret2
    exact ⟨rfl, hb⟩
set_option maxRecDepth 100000 in
set_option maxHeartbeats 4000000 in
theorem ask_string (g : Nat) (p : PlS) (F : FormS) (k : Nat) (w : World) (h : FormIs g p F k w) (hk : k < 9223372036854775807) (hv : ∀ x s, F.vals x = some s → s.size ≤ 140737488351232) (t : Int) (ht : i64ok t) :
    Calls Tryd.prog 28 #[.pointer (some ⟨g, 0, none⟩), .int .i64 t, .func (.func 29) #[] #[]] w fun e w' =>
      e = .returned (.string (askL takeName ⟨#[]⟩ F t).1) ∧ FormIs g p (askL takeName ⟨#[]⟩ F t).2 (k + 1) w' ∧ Turned (FormB g p) w w' := by
  have hc1 := h.c1
  have hc2 := h.c2
  have hc4 := h.c4
  have HF := Aside0.mk h
  have HIs := Aside0.mk (form_is g p F k w h)
  by_cases he : F.e = 0
  · have t1 : (F.e != 0) = false := by rw [he]; rfl
    obtain ⟨w1, hrun, hAs, hgr⟩ := h.asked.put t ht hk
    have HF1 : Aside0 (FormIs g p (F.mark t) (k + 1) w1) := ⟨h.ask hAs hgr⟩
    have HT : Aside0 (Turned (FormB g p) w w1) := ⟨Turned.of_grown hgr (.inr rfl)⟩
    have HH := Aside0.mk (form_has g p _ _ w1 HF1.out t ht)
    have hc11 := HF1.out.c1
    have hlk := HF1.out.vals.look t ht
    clear hgr hAs
    have hc31 := HF1.out.c3
    have hc41 := HF1.out.c4
    have hl31 := HF1.out.l3
    have hl41 := HF1.out.l4
    rw [show (F.mark t).vals t = F.vals t from rfl] at HH hlk
    cases hvt : F.vals t with
    | none =>
      have HA := Aside0.mk (askL_none takeName ⟨#[]⟩ F t he hvt)
      rw [hvt] at HH hlk
      have HE := Aside0.mk (HF1.out.fail t 110)
      have HT2 : Aside0 (Turned (FormB g p) w ((w1.setCell ⟨g, 3, none⟩ (.int .i64 t)).setCell ⟨g, 4, none⟩ (.int .i64 110))) := ⟨(HT.out.setCell (p := ⟨g, 3, none⟩) (.inl rfl) _).setCell (p := ⟨g, 4, none⟩) (.inl rfl) _⟩
      simp only [Option.isSome_none] at HH
      clear hlk
      go_enter Tryd.func28, Tryd.ntmps28
      go_wp2_with (first | (go_at_call 27; refine HIs.out.mono ?_; rintro e w' ⟨rfl, hh⟩; obtain rfl : w = w' := hh.symm) | (go_at_call 16; refine HH.out.mono ?_; rintro e w' ⟨rfl, hh⟩; obtain rfl : w1 = w' := hh.symm))
      go_ret
      rw [HA.out]
      exact ⟨rfl, HE.out, HT2.out⟩
    | some s =>
      have HA := Aside0.mk (askL_some takeName ⟨#[]⟩ F t he hvt)
      rw [hvt] at HH hlk
      simp only [Option.isSome_some, Option.getD_some] at HH hlk
      have HC := Aside0.mk (name_closure s w1 (hv t s hvt))
      try simp only at HA
      generalize hr : takeName s = r at *
      obtain ⟨n, e⟩ := r
      try simp only at HA HC
      clear hr
      have HR : Aside0 (∀ w2, Below w1.heap.size w1 w2 → FormIs g p (F.mark t) (k + 1) w2 ∧ Turned (FormB g p) w w2) := ⟨fun w2 hb => ⟨HF1.out.below hb, HT.out.trans (Turned.of_below hb)⟩⟩
      have HE : Aside0 (∀ w2, FormIs g p (F.mark t) (k + 1) w2 → Turned (FormB g p) w w2 → FormIs g p ((F.mark t).fail t e) (k + 1) ((w2.setCell ⟨g, 3, none⟩ (.int .i64 t)).setCell ⟨g, 4, none⟩ (.int .i64 e)) ∧ Turned (FormB g p) w ((w2.setCell ⟨g, 3, none⟩ (.int .i64 t)).setCell ⟨g, 4, none⟩ (.int .i64 e))) := ⟨fun w2 h2 ht2 => ⟨h2.fail t e, (ht2.setCell (p := ⟨g, 3, none⟩) (.inl rfl) _).setCell (p := ⟨g, 4, none⟩) (.inl rfl) _⟩⟩
      by_cases ce : e = 0
      · have HA2 : Aside0 (askL takeName ⟨#[]⟩ F t = (n, F.mark t)) := ⟨HA.out.trans (if_pos ce)⟩
        have t2 : (e == 0) = true := by rw [ce]; rfl
        clear HA
        go_enter Tryd.func28, Tryd.ntmps28
        go_wp2_with (first | (go_at_call 27; refine HIs.out.mono ?_; rintro e w' ⟨rfl, hh⟩; obtain rfl : w = w' := hh.symm) | (go_at_call 16; refine HH.out.mono ?_; rintro e w' ⟨rfl, hh⟩; obtain rfl : w1 = w' := hh.symm) | (go_at_call 29; refine HC.out.mono ?_; rintro en w2 ⟨rfl, hb⟩; have HR2 := Aside0.mk (HR.out w2 hb); have hc32 := HR2.out.1.c3; have hc42 := HR2.out.1.c4; have hl32 := HR2.out.1.l3; have hl42 := HR2.out.1.l4; clear hb))
        go_ret
        rw [HA2.out]
        exact ⟨rfl, HR2.out.1, HR2.out.2⟩
      · have HA2 : Aside0 (askL takeName ⟨#[]⟩ F t = (⟨#[]⟩, (F.mark t).fail t e)) := ⟨HA.out.trans (if_neg ce)⟩
        have t2 : (e == 0) = false := by rw [beq_eq_false_iff_ne]; exact ce
        clear HA
        go_enter Tryd.func28, Tryd.ntmps28
        go_wp2_with (first | (go_at_call 27; refine HIs.out.mono ?_; rintro e w' ⟨rfl, hh⟩; obtain rfl : w = w' := hh.symm) | (go_at_call 16; refine HH.out.mono ?_; rintro e w' ⟨rfl, hh⟩; obtain rfl : w1 = w' := hh.symm) | (go_at_call 29; refine HC.out.mono ?_; rintro en w2 ⟨rfl, hb⟩; have HR2 := Aside0.mk (HR.out w2 hb); have hc32 := HR2.out.1.c3; have hc42 := HR2.out.1.c4; have hl32 := HR2.out.1.l3; have hl42 := HR2.out.1.l4; clear hb))
        go_ret
        rw [HA2.out]
        exact ⟨rfl, (HE.out w2 HR2.out.1 HR2.out.2).1, (HE.out w2 HR2.out.1 HR2.out.2).2⟩
  · have HA : Aside0 (askL takeName ⟨#[]⟩ F t = (⟨#[]⟩, F)) := ⟨askL_off _ _ _ _ he⟩
    have t1 : (F.e != 0) = true := by rw [bne_iff_ne]; exact he
    go_enter Tryd.func28, Tryd.ntmps28
    go_wp2_with (go_at_call 27; refine HIs.out.mono ?_; rintro e w' ⟨rfl, hh⟩; obtain rfl : w = w' := hh.symm)
    go_ret
    rw [HA.out]
    exact ⟨rfl, HF.out.mono (by omega), Turned.refl _ _⟩
set_option maxRecDepth 100000 in
set_option maxHeartbeats 4000000 in
theorem form_name (g : Nat) (p : PlS) (F : FormS) (k : Nat) (w : World) (h : FormIs g p F k w) (hk : k < 9223372036854775807) (hv : ∀ x s, F.vals x = some s → s.size ≤ 140737488351232) (t : Int) (ht : i64ok t) :
    Calls Tryd.prog 17 #[.pointer (some ⟨g, 0, none⟩), .int .i64 t] w fun e w' =>
      e = .returned (.string (askL takeName ⟨#[]⟩ F t).1) ∧ FormIs g p (askL takeName ⟨#[]⟩ F t).2 (k + 1) w' ∧ Turned (FormB g p) w w' := by
  have HAk := Aside0.mk (ask_string g p F k w h hk hv t ht)
  go_enter Tryd.func17, Tryd.ntmps17
  go_wp2_with (go_at_call 28; refine HAk.out.mono ?_; rintro e w' ⟨rfl, h1, h2⟩)
  go_ret
  exact ⟨rfl, h1, h2⟩
end Go.Proofs.YtbkpkfbdpmjgoaaDoor.T
end
section
namespace Go.Proofs.YtbkpkfbdpmjgoaaDoor.T
open Go.RowKit Go.Proofs.YtbkpkfbdpmjgoaaDoorW.PrintWords Go.Proofs.YtbkpkfbdpmjgoaaDoorW.PrintLast Go.Proofs.YtbkpkfbdpmjgoaaDoorW.PrintMore
attribute [local go_sem] max2_int min2_int max_two min_two max_three min_three max_four min_four   -- for this text's walks alone
set_option linter.unusedVariables false
set_option linter.unusedSimpArgs false
theorem tag_may_same (r : Nat) (hr : r ≤ 2147483647) (w : World) :
    Calls Tryd.prog 53 #[.int .i32 (r : Int)] w fun e w' => e = .returned (.bool (mayB r)) ∧ w = w' := by
  by_cases c1 : r < 32
  · have hv : mayB r = false := by unfold mayB; simp; omega
    have t1 : decide ((32 : Int) ≤ (r : Int)) = false := by rw [decide_eq_false_iff_not]; omega
    rw [hv]
    clear hv c1
    go_enter Tryd.func53, Tryd.ntmps53
    go_wp2
    go_ret
    exact ⟨rfl, rfl⟩
  have t1 : decide ((32 : Int) ≤ (r : Int)) = true := by rw [decide_eq_true_eq]; omega
  by_cases c2 : r = 127
  · subst c2
    go_enter Tryd.func53, Tryd.ntmps53
    go_wp2
    go_ret
    exact ⟨rfl, rfl⟩
  by_cases c3 : r = 65533
  · subst c3
    go_enter Tryd.func53, Tryd.ntmps53
    go_wp2
    go_ret
    exact ⟨rfl, rfl⟩
  have hv : mayB r = true := by rw [mayB_eq]; omega
  have t2 : ((r : Int) == 127) = false := by rw [beq_eq_false_iff_ne]; omega
  have t3 : ((r : Int) != 127) = true := by rw [bne_iff_ne]; omega
  have t4 : ((r : Int) == 65533) = false := by rw [beq_eq_false_iff_ne]; omega
  have t5 : ((r : Int) != 65533) = true := by rw [bne_iff_ne]; omega
  rw [hv]
  clear hv c1 c2 c3
  go_enter Tryd.func53, Tryd.ntmps53
  go_wp2
  go_ret
  exact ⟨rfl, rfl⟩
end Go.Proofs.YtbkpkfbdpmjgoaaDoor.T
end
section
namespace Go.Proofs.YtbkpkfbdpmjgoaaDoor.T
open Go.RowKit Go.Proofs.YtbkpkfbdpmjgoaaDoorW.PrintWords Go.Proofs.YtbkpkfbdpmjgoaaDoorW.PrintLast Go.Proofs.YtbkpkfbdpmjgoaaDoorW.PrintMore
attribute [local go_sem] max2_int min2_int max_two min_two max_three min_three max_four min_four   -- for this text's walks alone
set_option linter.unusedVariables false
set_option linter.unusedSimpArgs false
def tag_value.f (a0 : ByteArray) : Option Bool := if a0.size ≤ 9223372036854775807 then some (valueL a0.data.toList) else none
def BoolIs (b : Bool) (w : World) (e : Ending) (w' : World) : Prop := e = .returned (.bool b) ∧ Below w.heap.size w w'
theorem BoolIs.mk_ {a b : Bool} {w w' : World} (h : a = b) (hw : Below w.heap.size w w') : BoolIs b w (.returned (.bool a)) w' := by subst h; exact ⟨rfl, hw⟩
set_option maxHeartbeats 1000000 in
theorem tag_value_walk (s : ByteArray) (w : World) (hs : s.size ≤ 9223372036854775807) :
    Calls Tryd.prog 44 #[.string s] w (BoolIs (valueL s.data.toList) w) := by
  have hV : valueL s.data.toList = (decide (1 ≤ s.size) && (decide (s.size ≤ 512) && allMay s.data.toList)) := rfl
  by_cases c1 : s.size < 1
  · have HF := Aside0.mk (show false = valueL s.data.toList by rw [hV, decide_eq_false (by omega)]; rfl)
    have t1 : decide ((s.size : Int) < 1) = true := by rw [decide_eq_true_eq]; omega
    clear hV
    go_enter Tryd.func44, Tryd.ntmps44
    go_wp2
    go_ret
    exact BoolIs.mk_ HF.out (Below.refl _ _)
  have t1 : decide ((s.size : Int) < 1) = false := by rw [decide_eq_false_iff_not]; omega
  by_cases c2 : 512 < s.size
  · have HF := Aside0.mk (show false = valueL s.data.toList by rw [hV, decide_eq_false (p := s.size ≤ 512) (by omega)]; simp)
    have t2 : decide ((512 : Int) < (s.size : Int)) = true := by rw [decide_eq_true_eq]; omega
    clear hV
    go_enter Tryd.func44, Tryd.ntmps44
    go_wp2
    go_ret
    exact BoolIs.mk_ HF.out (Below.refl _ _)
  have t2 : decide ((512 : Int) < (s.size : Int)) = false := by rw [decide_eq_false_iff_not]; omega
  have HF := Aside0.mk (show valueL s.data.toList = allMay s.data.toList by rw [hV, decide_eq_true (by omega), decide_eq_true (by omega)]; simp)
  have HB : Aside0 (∀ p, Below w.heap.size w (w.iter s p)) := ⟨fun p => (Below.refl _ _).alloc (Nat.le_refl _) _⟩
  clear hV
  go_enter Tryd.func44, Tryd.ntmps44
  go_wp2
  go_loopw [4] (fun _ w' => ∃ pos : Nat, w' = w.iter s pos ∧ Aside0 (allMay (s.data.toList.drop pos) = allMay s.data.toList)) (fun _ w' => s.size - w'.iterPos w.heap.size)
  case atStart => exact ⟨0, rfl, ⟨rfl⟩⟩
  case round =>
    obtain ⟨pos, rfl, hA⟩ := hrel
    by_cases hp : pos < s.size
    · have hnx : ∀ ty, (Instr.next (.pointer (some ⟨w.heap.size, 0, none⟩)) true ty).run Tryd.prog (w.iter s pos) = _ := fun ty => run_next_any w s pos ty hp
      have hle := decode_le s pos
      have hst := hA.out
      rw [allMay_cons _ (drop_ne_nil s pos hp), dec_drop, List.drop_drop] at hst
      have hwd := dec_width (s.data.toList.drop pos)
      rw [dec_drop] at hwd
      clear hA
      generalize (Utf8.decode s pos).1 = r at *
      generalize (Utf8.decode s pos).2 = wd at *
      have HM : Aside0 (∀ w, Calls Tryd.prog 53 #[.int .i32 (r : Int)] w fun e w' => e = .returned (.bool (mayB r)) ∧ w = w') := ⟨fun w => tag_may_same r hle w⟩
      cases hm : mayB r with
      | false =>
        rw [hm] at hst HM
        have HS := Aside0.mk hst
        clear hst hm
        go_wp2_with (go_at_call 53; refine (HM.out _).mono ?_; rintro e w1 ⟨rfl, rfl⟩)
        go_ret
        exact BoolIs.mk_ (by rw [HF.out, ← HS.out]; rfl) (HB.out _)
      | true =>
        rw [hm] at hst HM
        have HS := Aside0.mk hst
        clear hst hm
        go_wp2_with (go_at_call 53; refine (HM.out _).mono ?_; rintro e w1 ⟨rfl, rfl⟩)
        go_roundw
        case rel => exact ⟨pos + wd, rfl, ⟨by have := HS.out; simpa using this⟩⟩
        case measure => simp; omega
    · have hnx : ∀ ty, (Instr.next (.pointer (some ⟨w.heap.size, 0, none⟩)) true ty).run Tryd.prog (w.iter s pos) = _ := fun ty => run_next_end w s pos ty hp
      have HS := Aside0.mk (show true = allMay s.data.toList by rw [← hA.out, drop_nil_of s pos hp, allMay_nil])
      clear hA
      go_wp2
      go_ret
      exact BoolIs.mk_ (by rw [HF.out]; exact HS.out) (HB.out _)
theorem tag_value.calls (a0 : ByteArray) (r : Bool) (w : World) (h : tag_value.f a0 = some r) :
    Calls Tryd.prog 44 #[.string a0] w fun e w' => e = .returned (.bool r) ∧ Below w.heap.size w w' := by
  unfold tag_value.f at h
  by_cases c : a0.size ≤ 9223372036854775807
  · rw [if_pos c] at h
    obtain rfl := Option.some.inj h
    exact tag_value_walk a0 w c
  · rw [if_neg c] at h; cases h
end Go.Proofs.YtbkpkfbdpmjgoaaDoor.T
end
section
namespace Go.Proofs.YtbkpkfbdpmjgoaaDoor.T
open Go.RowKit Go.Proofs.YtbkpkfbdpmjgoaaDoorW.PrintWords Go.Proofs.YtbkpkfbdpmjgoaaDoorW.PrintLast Go.Proofs.YtbkpkfbdpmjgoaaDoorW.PrintMore
attribute [local go_sem] max2_int min2_int max_two min_two max_three min_three max_four min_four   -- for this text's walks alone
set_option linter.unusedVariables false
set_option linter.unusedSimpArgs false
def strconv_Itoa.f (a0 : Int) : Option ByteArray := if 0 ≤ a0 ∧ a0 ≤ 9223372036854775807 then some (digitsB a0) else none
theorem strconv_Itoa.calls (a0 : Int) (r : ByteArray) (w : World) (hT_ : Aside0 (Tabs_ w)) (h : strconv_Itoa.f a0 = some r) :
    Calls Tryd.prog 45 #[.int .i64 a0] w fun e w' => e = .returned (.string r) ∧ Below w.heap.size w w' := by
  unfold strconv_Itoa.f at h
  by_cases c : 0 ≤ a0 ∧ a0 ≤ 9223372036854775807
  · rw [if_pos c] at h
    obtain rfl := Option.some.inj h
    refine (Tryd.strconv_Itoa a0 (by omega) c.2 w hT_.out.tab).mono ?_
    rintro e w' ⟨rfl, k, os, rfl⟩
    refine ⟨?_, Lib.below_grow _ w (Nat.le_refl _) k os⟩
    obtain ⟨n, rfl⟩ := Int.eq_ofNat_of_zero_le c.1
    unfold digitsB
    rw [Lib.itoa_nonneg, decDigits_digitsN, Int.toNat_natCast]
  · rw [if_neg c] at h; cases h
end Go.Proofs.YtbkpkfbdpmjgoaaDoor.T
end
section
namespace Go.Proofs.YtbkpkfbdpmjgoaaDoor.T
open Go.RowKit Go.Proofs.YtbkpkfbdpmjgoaaDoorW.PrintWords Go.Proofs.YtbkpkfbdpmjgoaaDoorW.PrintLast Go.Proofs.YtbkpkfbdpmjgoaaDoorW.PrintMore
attribute [local go_sem] max2_int min2_int max_two min_two max_three min_three max_four min_four   -- for this text's walks alone
set_option linter.unusedVariables false
set_option linter.unusedSimpArgs false
def tag_Form_p.j0 : Nat → Bool → Int → ByteArray → Option (ByteArray × Int)
  | 0, _, _, _ => none
  | k + 1, x4, x102000, x102001 => if x4 = true then (some ((⟨#[]⟩ : ByteArray), 80)) else ((tag_value.f x102001).bind fun t102 => (if t102 = true then ((strconv_Itoa.f x102000).bind fun t103 => (if t103.size + 1 ≤ 9223372036854775807 then (if (t103 ++ (⟨#[61]⟩ : ByteArray)).size + x102001.size ≤ 9223372036854775807 then (if ((t103 ++ (⟨#[61]⟩ : ByteArray)) ++ x102001).size + 1 ≤ 9223372036854775807 then (some (((t103 ++ (⟨#[61]⟩ : ByteArray)) ++ x102001) ++ (⟨#[1]⟩ : ByteArray), 0)) else (none)) else (none)) else (none))) else (some ((⟨#[]⟩ : ByteArray), 81))))
def tag_Form_p.f (k : Nat) (a0_0 : Int) (a0_1 : ByteArray) : Option (ByteArray × Int) := if a0_0 < 1 then (tag_Form_p.j0 k true a0_0 a0_1) else (tag_Form_p.j0 k (decide (a0_0 > 99999)) a0_0 a0_1)
theorem tag_Form_p.mono_l : ∀ k, (∀ y0 y1 y2, LeO (tag_Form_p.j0 k y0 y1 y2) (tag_Form_p.j0 (k + 1) y0 y1 y2))
  | 0 => fun _ _ _ r h => by simp [tag_Form_p.j0] at h
  | k + 1 => by
    have ih0 := tag_Form_p.mono_l k
    · intro y0 y1 y2
      unfold tag_Form_p.j0
      repeat' first
      | (with_reducible exact ih0 _ _ _)
      | (with_reducible exact LeO.refl _)
      | (with_reducible exact LeO.none _)
      | (with_reducible refine LeO.ite ?_ ?_)
      | (with_reducible refine LeO.bind ?_ (fun _ => ?_))
      | exact ih0 _ _ _
      | exact LeO.none _
      | refine LeO.ite ?_ ?_
      | refine LeO.bind ?_ (fun _ => ?_)
theorem tag_Form_p.mono : ∀ a0 a1 k, LeO (tag_Form_p.f k a0 a1) (tag_Form_p.f (k + 1) a0 a1) := by
  intro a0 a1 k
  have ih0 := tag_Form_p.mono_l k
  unfold tag_Form_p.f
  repeat' first
      | (with_reducible exact ih0 _ _ _)
      | (with_reducible exact LeO.refl _)
      | (with_reducible exact LeO.none _)
      | (with_reducible refine LeO.ite ?_ ?_)
      | (with_reducible refine LeO.bind ?_ (fun _ => ?_))
      | exact ih0 _ _ _
      | exact LeO.none _
      | refine LeO.ite ?_ ?_
      | refine LeO.bind ?_ (fun _ => ?_)
def tag_Form_p.T5 : Bool × List (List Nat × List Nat) := (true, [([], []), ([0], [0]), ([1], [1]), ([2], [2]), ([], []), ([4], [4]), ([3, 5], [3, 5]), ([6], [6]), ([7, 2, 0, 1, 2, 3, 4, 5, 6, 7], [7]), ([8, 0, 1, 2, 3, 4, 5, 6, 7, 8], [])])
def tag_Form_p.B5 : List Nat := [0, 1, 3, 7, 0, 16, 63, 127, 255, 511]
theorem tag_Form_p.tab5 : rtab .any (opsOf Tryd.f35 5) = tag_Form_p.T5 := by kernel_rfl
theorem tag_Form_p.bits5 : waitsOk tag_Form_p.T5.2 tag_Form_p.B5 = true := by kernel_rfl
set_option maxHeartbeats 8000000 in
set_option maxRecDepth 100000 in
theorem tag_Form_p.calls (k : Nat) (a0_0 : Int) (a0_1 : ByteArray) (r1 : ByteArray) (r2 : Int) (w : World) (hT_ : Aside0 (Tabs_ w)) (h : tag_Form_p.f k a0_0 a0_1 = some (r1, r2)) :
    Calls Tryd.prog 35 #[.agg #[.int .i64 a0_0, .string a0_1]] w fun e w' => e = .returned (.tuple #[.string r1, .int .i64 r2]) ∧ Below w.heap.size w w' := by
  have hu51 := Tryd.underlying51
  have HB := Aside0.mk (Below.refl w.heap.size w)
  have H : (if a0_0 < 1 then (tag_Form_p.j0 k true a0_0 a0_1) else (tag_Form_p.j0 k (decide (a0_0 > 99999)) a0_0 a0_1)) = some (r1, r2) := h
  clear h
  have HC2 := Aside0.mk H
  clear H
  go_enter Tryd.func35, Tryd.ntmps35
  go_upto_region 1 with (first | ((with_reducible refine gate_dst (N := 1) rfl ?_); refine box_event ?hg (N := 1) ?hd (cs := #[.int .i64 a0_0, .string a0_1]) (t := 51) ?hr ?_; (case hd => rfl); (case hg => rfl); (case hr => first | (go_simp; done) | (go_simp; rfl)); intro gb101 hg w3 hbox hb; have n0_ := Aside0.mk (below_step (by repeat (first | (with_reducible first | exact HB.out | apply below_alloc | apply pw_below_drewN | apply below_drew1) | exact HB.out)) hb); have n1_ := Aside0.mk (hbox); have n2_ := Aside0.mk ((by rw [hg]; exact (below_size (by repeat (first | (with_reducible first | exact HB.out | apply below_alloc | apply pw_below_drewN | apply below_drew1) | exact HB.out))) : w.heap.size ≤ gb101)); have n3_ := Aside0.mk ((by rw [hg]; exact (below_size (by repeat (first | (with_reducible first | exact HB.out | apply below_alloc | apply pw_below_drewN | apply below_drew1) | exact HB.out))) : w.heap.size ≤ gb101)); clear HB; have HB := n0_; have BK101 := n1_; have GW101 := n2_; have GE101 := n3_; clear n0_ n1_ n2_ n3_; clear hb hbox hg))
  (try simp only [Act.put, List.setIfInBounds_toArray, List.set_cons_zero, List.set_cons_succ])
  go_cut [4] (fun v4 wc => ∃ (kq : Nat) (x4_1 : Bool), v4 = .bool x4_1 ∧ Aside0 (tag_Form_p.j0 kq x4_1 a0_0 a0_1 = some (r1, r2)) ∧ Aside0 (kq ≤ k) ∧ Aside0 (wc.heap[gb101]? = some (.cells #[.int .i64 a0_0, .string a0_1] 51 (0, 0))) ∧ Aside0 (Below w.heap.size w wc))
  case first =>
    have H := HC2.out
    clear HC2
    by_cases c4 : a0_0 < 1
    · rw [if_pos c4] at H
      have c4b0 : decide (a0_0 < 1) = true := decide_eq_true c4
      clear c4
      (first | rw [c4b0] | (simp only [i64_w, i32_w]; rw [c4b0]) | skip)
      have H' := Aside0.mk H
      clear H
      have hcz5_0 : w3.cell? ⟨gb101, 0, none⟩ = some (.int .i64 a0_0) := (blk_cell BK101.out 0).trans rfl
      have hcz5_1 : w3.cell? ⟨gb101, 1, none⟩ = some (.string a0_1) := (blk_cell BK101.out 1).trans rfl
      have hfz5_0 := blk_frozen BK101.out 0
      have hfz5_1 := blk_frozen BK101.out 1
      go_wp2
      go_meet
      case rel => exact ⟨_, (true), (by first | rfl | (simp; done) | (simp [*]; done)), H', ⟨by first | omega | exact Nat.le_refl _⟩, ⟨by (with_reducible repeat (first | refine blk_drewN ?_ _ | refine blk_drew ?_ | refine blk_alloc ?_ _)); exact BK101.out⟩, ⟨by repeat (first | (with_reducible first | exact HB.out | apply below_alloc | apply pw_below_drewN | apply below_drew1 | refine below_set ?_ GE101.out) | exact HB.out)⟩⟩
    · rw [if_neg c4] at H
      have c4b0 : decide (a0_0 < 1) = false := decide_eq_false c4
      clear c4
      (first | rw [c4b0] | (simp only [i64_w, i32_w]; rw [c4b0]) | skip)
      have H' := Aside0.mk H
      clear H
      have hcz6_0 : w3.cell? ⟨gb101, 0, none⟩ = some (.int .i64 a0_0) := (blk_cell BK101.out 0).trans rfl
      have hcz6_1 : w3.cell? ⟨gb101, 1, none⟩ = some (.string a0_1) := (blk_cell BK101.out 1).trans rfl
      have hfz6_0 := blk_frozen BK101.out 0
      have hfz6_1 := blk_frozen BK101.out 1
      go_wp2
      go_meet
      case rel => exact ⟨_, (decide (a0_0 > 99999)), (by first | rfl | (simp; done) | (simp [*]; done)), H', ⟨by first | omega | exact Nat.le_refl _⟩, ⟨by (with_reducible repeat (first | refine blk_drewN ?_ _ | refine blk_drew ?_ | refine blk_alloc ?_ _)); exact BK101.out⟩, ⟨by repeat (first | (with_reducible first | exact HB.out | apply below_alloc | apply pw_below_drewN | apply below_drew1 | refine below_set ?_ GE101.out) | exact HB.out)⟩⟩
  case rest =>
    clear HC2
    try clear p2
    try clear c3
    try clear c4
    try clear c4b0
    try clear hcz5_0
    try clear hcz5_1
    try clear hcz6_0
    try clear hcz6_1
    try clear hfz5_0
    try clear hfz5_1
    try clear hfz6_0
    try clear hfz6_1
    obtain ⟨kq, x4_1, rfl, HA, HJ1, BK101, HB⟩ := hcut
    cases kq with
    | zero => exact absurd HA.out (by simp [tag_Form_p.j0])
    | succ kj1 =>
      have H := HA.out
      clear HA
      simp only [tag_Form_p.j0] at H
      by_cases c7 : x4_1 = true
      · subst c7
        have H1 : (some ((⟨#[]⟩ : ByteArray), 80)) = some (r1, r2) := by rw [if_pos rfl] at H; exact H
        clear H
        have H := H1
        clear H1
        simp only [Option.some.injEq, Prod.mk.injEq] at H
        obtain ⟨rfl, rfl⟩ := H
        go_wp2
        go_ret2
        exact ⟨by first | rfl | (simp [errW_none, errW_some] <;> rfl) | (simp [*, errW_none, errW_some] <;> rfl), by repeat (first | (with_reducible first | exact HB.out | apply below_alloc | apply pw_below_drewN | apply below_drew1 | refine below_set ?_ GE101.out) | exact HB.out)⟩
      · replace c7 := Bool.eq_false_iff.mpr c7
        subst c7
        have H1 : ((tag_value.f a0_1).bind fun t102 => (if t102 = true then ((strconv_Itoa.f a0_0).bind fun t103 => (if t103.size + 1 ≤ 9223372036854775807 then (if (t103 ++ (⟨#[61]⟩ : ByteArray)).size + a0_1.size ≤ 9223372036854775807 then (if ((t103 ++ (⟨#[61]⟩ : ByteArray)) ++ a0_1).size + 1 ≤ 9223372036854775807 then (some (((t103 ++ (⟨#[61]⟩ : ByteArray)) ++ a0_1) ++ (⟨#[1]⟩ : ByteArray), 0)) else (none)) else (none)) else (none))) else (some ((⟨#[]⟩ : ByteArray), 81)))) = some (r1, r2) := by rw [if_neg (show ¬ (false = true) by decide)] at H; exact H
        clear H
        have H := H1
        clear H1
        replace H := Option.bind_eq_some_iff.mp H
        obtain ⟨t102, A80, H⟩ := H
        replace H : (if t102 = true then ((strconv_Itoa.f a0_0).bind fun t103 => (if t103.size + 1 ≤ 9223372036854775807 then (if (t103 ++ (⟨#[61]⟩ : ByteArray)).size + a0_1.size ≤ 9223372036854775807 then (if ((t103 ++ (⟨#[61]⟩ : ByteArray)) ++ a0_1).size + 1 ≤ 9223372036854775807 then (some (((t103 ++ (⟨#[61]⟩ : ByteArray)) ++ a0_1) ++ (⟨#[1]⟩ : ByteArray), 0)) else (none)) else (none)) else (none))) else (some ((⟨#[]⟩ : ByteArray), 81))) = some (r1, r2) := H
        have A8 := Aside0.mk A80
        clear A80
        by_cases c9 : t102 = true
        · subst c9
          have H1 : ((strconv_Itoa.f a0_0).bind fun t103 => (if t103.size + 1 ≤ 9223372036854775807 then (if (t103 ++ (⟨#[61]⟩ : ByteArray)).size + a0_1.size ≤ 9223372036854775807 then (if ((t103 ++ (⟨#[61]⟩ : ByteArray)) ++ a0_1).size + 1 ≤ 9223372036854775807 then (some (((t103 ++ (⟨#[61]⟩ : ByteArray)) ++ a0_1) ++ (⟨#[1]⟩ : ByteArray), 0)) else (none)) else (none)) else (none))) = some (r1, r2) := by rw [if_pos rfl] at H; exact H
          clear H
          have H := H1
          clear H1
          replace H := Option.bind_eq_some_iff.mp H
          obtain ⟨t103, A100, H⟩ := H
          replace H : (if t103.size + 1 ≤ 9223372036854775807 then (if (t103 ++ (⟨#[61]⟩ : ByteArray)).size + a0_1.size ≤ 9223372036854775807 then (if ((t103 ++ (⟨#[61]⟩ : ByteArray)) ++ a0_1).size + 1 ≤ 9223372036854775807 then (some (((t103 ++ (⟨#[61]⟩ : ByteArray)) ++ a0_1) ++ (⟨#[1]⟩ : ByteArray), 0)) else (none)) else (none)) else (none)) = some (r1, r2) := H
          have A10 := Aside0.mk A100
          clear A100
          by_cases c11 : t103.size + 1 ≤ 9223372036854775807
          · rw [if_pos c11] at H
            have c11b0 := eq_true c11
            have c11b1 : decide (t103.size + 1 ≤ 9223372036854775807) = true := decide_eq_true c11
            try have c11b2 : (9223372036854775807 < t103.size + 1) = False := eq_false (Nat.not_lt.2 c11)
            try (have c11b3 := c11; simp only [ByteArray.size_append, sz_lit, List.length_cons, List.length_nil, Nat.zero_add] at c11b3; have c11b4 := eq_false (Nat.not_lt.2 c11b3))
            by_cases c12 : (t103 ++ (⟨#[61]⟩ : ByteArray)).size + a0_1.size ≤ 9223372036854775807
            · rw [if_pos c12] at H
              have c12b0 := eq_true c12
              have c12b1 : decide ((t103 ++ (⟨#[61]⟩ : ByteArray)).size + a0_1.size ≤ 9223372036854775807) = true := decide_eq_true c12
              try have c12b2 : (9223372036854775807 < (t103 ++ (⟨#[61]⟩ : ByteArray)).size + a0_1.size) = False := eq_false (Nat.not_lt.2 c12)
              try (have c12b3 := c12; simp only [ByteArray.size_append, sz_lit, List.length_cons, List.length_nil, Nat.zero_add] at c12b3; have c12b4 := eq_false (Nat.not_lt.2 c12b3))
              by_cases c13 : ((t103 ++ (⟨#[61]⟩ : ByteArray)) ++ a0_1).size + 1 ≤ 9223372036854775807
              · rw [if_pos c13] at H
                have c13b0 := eq_true c13
                have c13b1 : decide (((t103 ++ (⟨#[61]⟩ : ByteArray)) ++ a0_1).size + 1 ≤ 9223372036854775807) = true := decide_eq_true c13
                try have c13b2 : (9223372036854775807 < ((t103 ++ (⟨#[61]⟩ : ByteArray)) ++ a0_1).size + 1) = False := eq_false (Nat.not_lt.2 c13)
                try (have c13b3 := c13; simp only [ByteArray.size_append, sz_lit, List.length_cons, List.length_nil, Nat.zero_add] at c13b3; have c13b4 := eq_false (Nat.not_lt.2 c13b3))
                simp only [Option.some.injEq, Prod.mk.injEq] at H
                obtain ⟨rfl, rfl⟩ := H
                have hcz14_0 : wc.cell? ⟨gb101, 0, none⟩ = some (.int .i64 a0_0) := (blk_cell BK101.out 0).trans rfl
                have hcz14_1 : wc.cell? ⟨gb101, 1, none⟩ = some (.string a0_1) := (blk_cell BK101.out 1).trans rfl
                have hfz14_0 := blk_frozen BK101.out 0
                have hfz14_1 := blk_frozen BK101.out 1
                try go_wp2_with (first | ((with_reducible refine gate_callee (f := 44) rfl ?_); refine goesL_ (some 16) rfl rfl Tryd.func44 (by kernel_rfl) rfl #[.string a0_1] rfl (by (try simp only [List.map_toArray, List.map_cons, List.map_nil]); first | done | rfl | (simp only [List.length_drop, List.length_take]; rfl)) ?_; (with_reducible refine (tag_value.calls a0_1 true _ A8.out).mono ?_); rintro e w15 ⟨rfl, hb⟩; refine ⟨_, rfl, ?_⟩; have n0_ := Aside0.mk (blk_below (g := gb101) (o := .cells #[.int .i64 a0_0, .string a0_1] 51 (0, 0)) (by (with_reducible repeat (first | refine blk_drewN ?_ _ | refine blk_drew ?_ | refine blk_alloc ?_ _)); exact BK101.out) hb); have n1_ := Aside0.mk (below_step (by repeat (first | (with_reducible first | exact HB.out | apply below_alloc | apply pw_below_drewN | apply below_drew1 | refine below_set ?_ GE101.out) | exact HB.out)) hb); clear BK101; clear HB; have BK101 := n0_; have HB := n1_; clear n0_ n1_; (try clear hb); (try clear hb2); (try clear hk); (try clear hi)))
                have n0_ := Aside0.mk (blk_drew BK101.out)
                have n1_ := Aside0.mk (below_drew1 HB.out)
                clear BK101
                clear HB
                have BK101 := n0_
                have HB := n1_
                clear n0_ n1_
                refine start_ (n := 10) (S := fun w' => w'.cell? ⟨gb101, 0, none⟩ = some (.int .i64 a0_0) ∧ w'.cell? ⟨gb101, 1, none⟩ = some (.string a0_1)) (ds := []) #[false, false, false, false, false, false, false, false, false, false] (by kernel_rfl) rfl rfl ⟨(blk_cell BK101.out 0).trans rfl, (blk_cell BK101.out 1).trans rfl⟩ (fun hHeld => ?_); refine with_tabW tag_Form_p.tab5 tag_Form_p.bits5 (fun HT_ HW_ => ?_)
                generalize w15.drew = w16 at BK101 HB hHeld ⊢
                refine pure_ (i := 0) (N := some 18) (v := ?_) (a' := ?_) #[true, false, false, false, false, false, false, false, false, false] rfl rfl (any_of HT_.out (by kernel_rfl)) (fun _ _ _ h => h) (Or.inl ⟨by rfl, ?_⟩) ?_ ?_
                rotate_left
                · intro w'
                  go_simp
                  with_reducible rfl
                rotate_left
                · simp only [Act.put, List.setIfInBounds_toArray, List.set_cons_zero, List.set_cons_succ, i64_w, i32_w]
                  rfl
                refine pure_ (i := 4) (N := some 22) (v := ?_) (a' := ?_) #[true, false, false, false, true, false, false, false, false, false] rfl rfl (any_of HT_.out (by kernel_rfl)) (fun _ _ _ h => h) (Or.inl ⟨by rfl, ?_⟩) ?_ ?_
                rotate_left
                · intro w'
                  go_simp
                  with_reducible rfl
                rotate_left
                · simp only [Act.put, List.setIfInBounds_toArray, List.set_cons_zero, List.set_cons_succ, i64_w, i32_w]
                  rfl
                refine take_ (i := 1) (N := some 19) (v := ?_) (a' := ?_) #[true, true, false, false, true, false, false, false, false, false] rfl rfl (take_ofW HT_.out HW_.out (by kernel_rfl)) (fun _ _ _ h => h) (Or.inl ⟨by rfl, ?_⟩) hHeld ?_ ?_
                rotate_left
                · rintro w' ⟨s0, s1⟩
                  go_simp
                  with_reducible rfl
                rotate_left
                · simp only [Act.put, List.setIfInBounds_toArray, List.set_cons_zero, List.set_cons_succ, i64_w, i32_w]
                  rfl
                refine take_ (i := 5) (N := some 23) (v := ?_) (a' := ?_) #[true, true, false, false, true, true, false, false, false, false] rfl rfl (take_ofW HT_.out HW_.out (by kernel_rfl)) (fun _ _ _ h => h) (Or.inl ⟨by rfl, ?_⟩) hHeld ?_ ?_
                rotate_left
                · rintro w' ⟨s0, s1⟩
                  go_simp
                  with_reducible rfl
                rotate_left
                · simp only [Act.put, List.setIfInBounds_toArray, List.set_cons_zero, List.set_cons_succ, i64_w, i32_w]
                  rfl
                refine one_ (i := 2) (N := some 20) #[true, true, true, false, true, true, false, false, false, false] rfl rfl (one_of HT_.out (by kernel_rfl)) (by decide) (fun K hK => ?_)
                refine goes_ Tryd.func45 (by kernel_rfl) rfl #[.int .i64 a0_0] (by rfl) rfl rfl (by (try simp only [List.map_toArray, List.map_cons, List.map_nil]); first | done | rfl | (simp only [List.length_drop, List.length_take]; rfl)) ?_
                with_reducible refine (strconv_Itoa.calls a0_0 t103 _ ?side1 A10.out).mono ?_
                (case side1 => exact Aside0.mk (Tabs_.below hT_.out (by repeat (first | (with_reducible first | exact HB.out | apply below_alloc | apply pw_below_drewN | apply below_drew1 | refine below_set ?_ GE101.out) | exact HB.out))))
                rintro e w17 ⟨rfl, hb⟩
                refine ⟨_, rfl, ?_⟩
                have n0_ := Aside0.mk (blk_below (g := gb101) (o := .cells #[.int .i64 a0_0, .string a0_1] 51 (0, 0)) (by (with_reducible repeat (first | refine blk_drewN ?_ _ | refine blk_drew ?_ | refine blk_alloc ?_ _)); exact BK101.out) hb)
                have n1_ := Aside0.mk (below_step (by repeat (first | (with_reducible first | exact HB.out | apply below_alloc | apply pw_below_drewN | apply below_drew1 | refine below_set ?_ GE101.out) | exact HB.out)) hb)
                clear BK101
                clear HB
                have BK101 := n0_
                have HB := n1_
                clear n0_ n1_
                (try clear hb)
                (try clear hb2)
                (try clear hk)
                (try clear hi)
                refine hK.out _ _ ⟨(blk_cell BK101.out 0).trans rfl, (blk_cell BK101.out 1).trans rfl⟩ (fun hHeld => ?_)
                clear hK K
                refine norm_ (a' := ?_) ?_ ?_
                rotate_left
                · show Act.put _ (some 20) _ = _
                  simp only [Act.put, List.setIfInBounds_toArray, List.set_cons_zero, List.set_cons_succ, i64_w, i32_w]
                  rfl
                refine pure_ (i := 3) (N := some 21) (v := ?_) (a' := ?_) #[true, true, true, true, true, true, false, false, false, false] rfl rfl (any_of HT_.out (by kernel_rfl)) (fun _ _ _ h => h) (Or.inl ⟨by rfl, ?_⟩) ?_ ?_
                rotate_left
                · intro w'
                  go_simp
                  with_reducible rfl
                rotate_left
                · simp only [Act.put, List.setIfInBounds_toArray, List.set_cons_zero, List.set_cons_succ, i64_w, i32_w]
                  rfl
                refine pure_ (i := 6) (N := some 24) (v := ?_) (a' := ?_) #[true, true, true, true, true, true, true, false, false, false] rfl rfl (any_of HT_.out (by kernel_rfl)) (fun _ _ _ h => h) (Or.inl ⟨by rfl, ?_⟩) ?_ ?_
                rotate_left
                · intro w'
                  go_simp
                  with_reducible rfl
                rotate_left
                · simp only [Act.put, List.setIfInBounds_toArray, List.set_cons_zero, List.set_cons_succ, i64_w, i32_w]
                  rfl
                refine pure_ (i := 7) (N := some 25) (v := ?_) (a' := ?_) #[true, true, true, true, true, true, true, true, false, false] rfl rfl (any_of HT_.out (by kernel_rfl)) (fun _ _ _ h => h) (Or.inl ⟨by rfl, ?_⟩) ?_ ?_
                rotate_left
                · intro w'
                  go_simp
                  with_reducible rfl
                rotate_left
                · simp only [Act.put, List.setIfInBounds_toArray, List.set_cons_zero, List.set_cons_succ, i64_w, i32_w]
                  rfl
                refine pure_ (i := 8) (N := some 2) (v := ?_) (a' := ?_) #[true, true, true, true, true, true, true, true, true, false] rfl rfl (any_of HT_.out (by kernel_rfl)) (fun _ _ _ h => h) (Or.inl ⟨by rfl, ?_⟩) ?_ ?_
                rotate_left
                · intro w'
                  go_simp
                  with_reducible rfl
                rotate_left
                · simp only [Act.put, List.setIfInBounds_toArray, List.set_cons_zero, List.set_cons_succ, i64_w, i32_w]
                  rfl
                refine pure_ (i := 9) (N := some 3) (v := ?_) (a' := ?_) #[true, true, true, true, true, true, true, true, true, true] rfl rfl (any_of HT_.out (by kernel_rfl)) (fun _ _ _ h => h) (Or.inl ⟨by rfl, ?_⟩) ?_ ?_
                rotate_left
                · intro w'
                  go_simp
                  with_reducible rfl
                rotate_left
                · simp only [Act.put, List.setIfInBounds_toArray, List.set_cons_zero, List.set_cons_succ, i64_w, i32_w]
                  rfl
                refine done_ (done_of HT_.out (by kernel_rfl)) ?_
                try go_wp2
                go_ret2
                exact ⟨by first | rfl | (simp [errW_none, errW_some] <;> rfl) | (simp [*, errW_none, errW_some] <;> rfl), by repeat (first | (with_reducible first | exact HB.out | apply below_alloc | apply pw_below_drewN | apply below_drew1 | refine below_set ?_ GE101.out) | exact HB.out)⟩
              · rw [if_neg c13] at H
                exact absurd H (by simp)
            · rw [if_neg c12] at H
              exact absurd H (by simp)
          · rw [if_neg c11] at H
            exact absurd H (by simp)
        · replace c9 := Bool.eq_false_iff.mpr c9
          subst c9
          have H1 : (some ((⟨#[]⟩ : ByteArray), 81)) = some (r1, r2) := by rw [if_neg (show ¬ (false = true) by decide)] at H; exact H
          clear H
          have H := H1
          clear H1
          simp only [Option.some.injEq, Prod.mk.injEq] at H
          obtain ⟨rfl, rfl⟩ := H
          have hcz18_0 : wc.cell? ⟨gb101, 0, none⟩ = some (.int .i64 a0_0) := (blk_cell BK101.out 0).trans rfl
          have hcz18_1 : wc.cell? ⟨gb101, 1, none⟩ = some (.string a0_1) := (blk_cell BK101.out 1).trans rfl
          have hfz18_0 := blk_frozen BK101.out 0
          have hfz18_1 := blk_frozen BK101.out 1
          go_wp2_with (first | ((with_reducible refine gate_callee (f := 44) rfl ?_); refine goesL_ (some 16) rfl rfl Tryd.func44 (by kernel_rfl) rfl #[.string a0_1] rfl (by (try simp only [List.map_toArray, List.map_cons, List.map_nil]); first | done | rfl | (simp only [List.length_drop, List.length_take]; rfl)) ?_; (with_reducible refine (tag_value.calls a0_1 false _ A8.out).mono ?_); rintro e w19 ⟨rfl, hb⟩; refine ⟨_, rfl, ?_⟩; have n0_ := Aside0.mk (blk_below (g := gb101) (o := .cells #[.int .i64 a0_0, .string a0_1] 51 (0, 0)) (by (with_reducible repeat (first | refine blk_drewN ?_ _ | refine blk_drew ?_ | refine blk_alloc ?_ _)); exact BK101.out) hb); have n1_ := Aside0.mk (below_step (by repeat (first | (with_reducible first | exact HB.out | apply below_alloc | apply pw_below_drewN | apply below_drew1 | refine below_set ?_ GE101.out) | exact HB.out)) hb); clear BK101; clear HB; have BK101 := n0_; have HB := n1_; clear n0_ n1_; (try clear hb); (try clear hb2); (try clear hk); (try clear hi)))
          go_ret2
          exact ⟨by first | rfl | (simp [errW_none, errW_some] <;> rfl) | (simp [*, errW_none, errW_some] <;> rfl), by repeat (first | (with_reducible first | exact HB.out | apply below_alloc | apply pw_below_drewN | apply below_drew1 | refine below_set ?_ GE101.out) | exact HB.out)⟩
def tag_Form.f (a0_0 : Int) (a0_1 : ByteArray) : Option (ByteArray × Int) := if a0_1.size ≤ 9223372036854775807 then some (⟨(formL a0_0 a0_1.data.toList).1.toArray⟩, ((formL a0_0 a0_1.data.toList).2 : Int)) else none
theorem form_bytes (n : Int) (v : ByteArray) : ((digitsB n ++ (⟨#[61]⟩ : ByteArray)) ++ v) ++ (⟨#[1]⟩ : ByteArray) = ⟨(digitsN n.toNat ++ 61 :: (v.data.toList ++ [1])).toArray⟩ := by
  apply ba_ext
  simp [digitsB]
theorem tag_Form_eq (n : Int) (v : ByteArray) (hv : v.size ≤ 9223372036854775807) : tag_Form_p.f 1 n v = tag_Form.f n v := by
  unfold tag_Form_p.f tag_Form.f formL
  rw [if_pos hv]
  simp only [tag_Form_p.j0]
  by_cases c1 : n < 1
  · rw [if_pos c1]; simp [c1]
  rw [if_neg c1]
  by_cases c2 : n > 99999
  · rw [decide_eq_true c2]; simp [c2]
  rw [decide_eq_false c2, if_neg (show ¬ (n < 1 ∨ 99999 < n) by omega), if_neg (show ¬ (false = true) by simp)]
  unfold tag_value.f
  rw [if_pos hv]
  simp only [Option.bind_some]
  by_cases c3 : valueL v.data.toList = true
  · rw [if_pos c3, if_pos c3]
    unfold strconv_Itoa.f
    rw [if_pos (by omega)]
    simp only [Option.bind_some]
    have h20 := digitsB_20 n (by omega)
    have h512 : v.size ≤ 512 := by
      have g2 := c3
      unfold valueL at g2
      simp only [Bool.and_eq_true, decide_eq_true_eq] at g2
      exact g2.2.1
    have z1 : (⟨#[61]⟩ : ByteArray).size = 1 := rfl
    rw [if_pos (by omega), if_pos (by rw [ByteArray.size_append]; omega), if_pos (by rw [ByteArray.size_append, ByteArray.size_append]; omega), form_bytes]
    rfl
  · rw [if_neg c3, if_neg c3]; rfl
theorem tag_Form.calls (a0_0 : Int) (a0_1 : ByteArray) (r1 : ByteArray) (r2 : Int) (w : World) (hT_ : Aside0 (Tabs_ w)) (h : tag_Form.f a0_0 a0_1 = some (r1, r2)) :
    Calls Tryd.prog 35 #[.agg #[.int .i64 a0_0, .string a0_1]] w fun e w' => e = .returned (.tuple #[.string r1, .int .i64 r2]) ∧ Below w.heap.size w w' := by
  by_cases c : a0_1.size ≤ 9223372036854775807
  · exact tag_Form_p.calls 1 a0_0 a0_1 r1 r2 w hT_ ((tag_Form_eq a0_0 a0_1 c).trans h)
  · unfold tag_Form.f at h; rw [if_neg c] at h; cases h
end Go.Proofs.YtbkpkfbdpmjgoaaDoor.T
end
