/- The functions that the law reaches, as plain Lean functions, and their contracts: texts merged. -/
import Derived.Laws.StructEq
import Derived.Test.YtgfigkfcmkdjdaaGreatDoorzAskDecodes2
import Derived.Test.YtgfigkfcmkdjdaaGreatDoorzAskDecodes0
import Derived.Test.YtgfigkfcmkdjdaaGreatDoorzAskDecodes1
import Derived.Test.YtgfigkfcmkdjdaaGreatDoorzAskDecodes3
section
namespace Go.Proofs.YtgfigkfcmkdjdaaGreatDoor.B
open Go.RowKit Go.Proofs.YtgfigkfcmkdjdaaGreatDoorW.PrintWords Go.Proofs.YtgfigkfcmkdjdaaGreatDoorW.PrintLast Go.Proofs.YtgfigkfcmkdjdaaGreatDoorW.PrintMore
attribute [local go_sem] max2_int min2_int max_two min_two max_three min_three max_four min_four   -- for this text's walks alone
set_option linter.unusedVariables false
set_option linter.unusedSimpArgs false
def mayN (r : Nat) : Bool := decide (33 ≤ r) && (r != 127 && (r != 61 && r != 65533))
theorem mayN_eq (r : Nat) : mayN r = true ↔ 33 ≤ r ∧ r ≠ 127 ∧ r ≠ 61 ∧ r ≠ 65533 := by simp [mayN]
def nameL (l : List UInt8) (n : Nat) : Bool := if _h : l = [] then decide (0 < n) else if 20 ≤ n then false else if mayN (dec l).1 = true then nameL (l.drop (dec l).2) (n + 1) else false
termination_by l.length
decreasing_by all_goals (have := dec_width l; have := List.length_pos_iff.2 _h; simp only [List.length_drop]; omega)
theorem nameL_nil (n : Nat) : nameL [] n = decide (0 < n) := by rw [nameL]; rfl
theorem nameL_full (l : List UInt8) (h : l ≠ []) (n : Nat) (hn : 20 ≤ n) : nameL l n = false := by rw [nameL, dif_neg h, if_pos hn]
theorem nameL_bad (l : List UInt8) (h : l ≠ []) (n : Nat) (hm : mayN (dec l).1 = false) : nameL l n = false := by
  rw [nameL, dif_neg h]
  split
  · rfl
  · rw [if_neg (by rw [hm]; decide)]
theorem nameL_go (l : List UInt8) (h : l ≠ []) (n : Nat) (hn : n < 20) (hm : mayN (dec l).1 = true) : nameL l n = nameL (l.drop (dec l).2) (n + 1) := by
  conv => lhs; rw [nameL]
  rw [dif_neg h, if_neg (by omega), if_pos hm]
theorem roster_may_same (r : Nat) (hr : r ≤ 2147483647) (w : World) :
    Calls Tryz.prog 50 #[.int .i32 (r : Int)] w fun e w' => e = .returned (.bool (mayN r)) ∧ w = w' := by
  by_cases c1 : r < 33
  · have hv : mayN r = false := by unfold mayN; simp; omega
    have t1 : decide ((33 : Int) ≤ (r : Int)) = false := by rw [decide_eq_false_iff_not]; omega
    rw [hv]
    clear hv c1
    go_enter Tryz.func50, Tryz.ntmps50
    go_wp2
    go_ret
    exact ⟨rfl, rfl⟩
  have t1 : decide ((33 : Int) ≤ (r : Int)) = true := by rw [decide_eq_true_eq]; omega
  by_cases c2 : r = 127
  · subst c2
    go_enter Tryz.func50, Tryz.ntmps50
    go_wp2
    go_ret
    exact ⟨rfl, rfl⟩
  by_cases c4 : r = 61
  · subst c4
    go_enter Tryz.func50, Tryz.ntmps50
    go_wp2
    go_ret
    exact ⟨rfl, rfl⟩
  by_cases c3 : r = 65533
  · subst c3
    go_enter Tryz.func50, Tryz.ntmps50
    go_wp2
    go_ret
    exact ⟨rfl, rfl⟩
  have hv : mayN r = true := by rw [mayN_eq]; omega
  have t2 : ((r : Int) == 127) = false := by rw [beq_eq_false_iff_ne]; omega
  have t3 : ((r : Int) != 127) = true := by rw [bne_iff_ne]; omega
  have t4 : ((r : Int) == 65533) = false := by rw [beq_eq_false_iff_ne]; omega
  have t5 : ((r : Int) != 65533) = true := by rw [bne_iff_ne]; omega
  have t6 : ((r : Int) == 61) = false := by rw [beq_eq_false_iff_ne]; omega
  have t7 : ((r : Int) != 61) = true := by rw [bne_iff_ne]; omega
  rw [hv]
  clear hv c1 c2 c3 c4
  go_enter Tryz.func50, Tryz.ntmps50
  go_wp2
  go_ret
  exact ⟨rfl, rfl⟩
def NameIs (b : Bool) (w : World) (e : Ending) (w' : World) : Prop := e = .returned (.bool b) ∧ Below w.heap.size w w'
theorem NameIs.mk_ {a b : Bool} {w w' : World} (h : a = b) (hw : Below w.heap.size w w') : NameIs b w (.returned (.bool a)) w' := by subst h; exact ⟨rfl, hw⟩
set_option maxRecDepth 100000 in
set_option maxHeartbeats 1000000 in
theorem roster_Valid_walk (s : ByteArray) (w : World) (hs : s.size ≤ 9223372036854775807) :
    Calls Tryz.prog 20 #[.string s] w (NameIs (nameL s.data.toList 0) w) := by
  have HB : Aside0 (∀ p, Below w.heap.size w (w.iter s p)) := ⟨fun p => (Below.refl _ _).alloc (Nat.le_refl _) _⟩
  go_enter Tryz.func20, Tryz.ntmps20
  go_wp2
  go_loopw [3] (fun v3 w' => ∃ pos n : Nat, w' = w.iter s pos ∧ v3 = .int .i64 (n : Int) ∧ n ≤ 20 ∧ Aside0 (nameL (s.data.toList.drop pos) n = nameL s.data.toList 0)) (fun _ w' => s.size - w'.iterPos w.heap.size)
  case atStart => exact ⟨0, 0, rfl, rfl, by omega, ⟨rfl⟩⟩
  case round =>
    obtain ⟨pos, n, rfl, rfl, hn, hA⟩ := hrel
    by_cases hp : pos < s.size
    · have hnx : ∀ ty, (Instr.next (.pointer (some ⟨w.heap.size, 0, none⟩)) true ty).run Tryz.prog (w.iter s pos) = _ := fun ty => run_next_any w s pos ty hp
      have hle := decode_le s pos
      have hne := drop_ne_nil s pos hp
      have hwd := dec_width (s.data.toList.drop pos)
      by_cases c20 : 20 ≤ n
      · have hn20 : n = 20 := by omega
        subst hn20
        have HS := Aside0.mk ((nameL_full _ hne 20 (by omega)).symm.trans hA.out)
        clear hA hne hwd c20
        generalize (Utf8.decode s pos).1 = r at *
        generalize (Utf8.decode s pos).2 = wd at *
        go_wp2
        go_ret
        exact NameIs.mk_ HS.out (HB.out _)
      · have t1 : decide ((20 : Int) < (n : Int) + 1) = false := by rw [decide_eq_false_iff_not]; omega
        have t1' : decide (20 < n + 1) = false := by rw [decide_eq_false_iff_not]; omega
        cases hm : mayN (dec (s.data.toList.drop pos)).1 with
        | false =>
          have HS := Aside0.mk ((nameL_bad _ hne n hm).symm.trans hA.out)
          rw [dec_drop] at hm
          clear hA hne hwd
          generalize (Utf8.decode s pos).1 = r at *
          generalize (Utf8.decode s pos).2 = wd at *
          have HM : Aside0 (∀ w, Calls Tryz.prog 50 #[.int .i32 (r : Int)] w fun e w' => e = .returned (.bool false) ∧ w = w') := ⟨fun w => by rw [← hm]; exact roster_may_same r hle w⟩
          clear hm
          go_wp2_with (go_at_call 50; refine (HM.out _).mono ?_; rintro e w1 ⟨rfl, rfl⟩)
          go_ret
          exact NameIs.mk_ HS.out (HB.out _)
        | true =>
          have HS := Aside0.mk ((nameL_go _ hne n (by omega) hm).symm.trans hA.out)
          rw [dec_drop] at hm hwd
          rw [dec_drop, List.drop_drop] at HS
          clear hA hne
          generalize (Utf8.decode s pos).1 = r at *
          generalize (Utf8.decode s pos).2 = wd at *
          have HM : Aside0 (∀ w, Calls Tryz.prog 50 #[.int .i32 (r : Int)] w fun e w' => e = .returned (.bool true) ∧ w = w') := ⟨fun w => by rw [← hm]; exact roster_may_same r hle w⟩
          clear hm
          go_wp2_with (go_at_call 50; refine (HM.out _).mono ?_; rintro e w1 ⟨rfl, rfl⟩)
          go_roundw
          case rel => exact ⟨pos + wd, n + 1, rfl, by rw [show ((n + 1 : Nat) : Int) = (n : Int) + 1 by omega], by omega, HS⟩
          case measure => simp; omega
    · have hnx : ∀ ty, (Instr.next (.pointer (some ⟨w.heap.size, 0, none⟩)) true ty).run Tryz.prog (w.iter s pos) = _ := fun ty => run_next_end w s pos ty hp
      have HS := Aside0.mk (hA.out.symm.trans (by rw [drop_nil_of s pos hp, nameL_nil]))
      clear hA
      go_wp2
      go_ret
      exact NameIs.mk_ (by rw [HS.out]) (HB.out _)
def roster_Valid.f (a0 : ByteArray) : Option Bool := if a0.size ≤ 9223372036854775807 then some (nameL a0.data.toList 0) else none
theorem roster_Valid.calls (a0 : ByteArray) (r : Bool) (w : World) (h : roster_Valid.f a0 = some r) :
    Calls Tryz.prog 20 #[.string a0] w fun e w' => e = .returned (.bool r) ∧ Below w.heap.size w w' := by
  unfold roster_Valid.f at h
  by_cases c : a0.size ≤ 9223372036854775807
  · rw [if_pos c] at h
    obtain rfl := Option.some.inj h
    exact roster_Valid_walk a0 w c
  · rw [if_neg c] at h; cases h
end Go.Proofs.YtgfigkfcmkdjdaaGreatDoor.B
end
section
namespace Go.Proofs.YtgfigkfcmkdjdaaGreatDoor.B
open Go.RowKit Go.Proofs.YtgfigkfcmkdjdaaGreatDoorW.PrintWords Go.Proofs.YtgfigkfcmkdjdaaGreatDoorW.PrintLast Go.Proofs.YtgfigkfcmkdjdaaGreatDoorW.PrintMore
attribute [local go_sem] max2_int min2_int max_two min_two max_three min_three max_four min_four   -- for this text's walks alone
set_option linter.unusedVariables false
set_option linter.unusedSimpArgs false
theorem i64_35 : i64ok 35 := i64ok_of (by decide) (by decide)
set_option maxRecDepth 100000 in
theorem form_is (g : Nat) (p : PlS) (F : FormS) (k : Nat) (w : World) (h : FormIs g p F k w) :
    Calls Tryz.prog 57 #[.pointer (some ⟨g, 0, none⟩)] w fun e w' => e = .returned (.bool true) ∧ w' = w := by
  have h1 := h.c1
  have hm := map_ne p.v w
  go_enter Tryz.func57, Tryz.ntmps57
  go_wp2
  go_ret
  exact ⟨rfl, rfl⟩
theorem form_has (g : Nat) (p : PlS) (F : FormS) (k : Nat) (w : World) (h : FormIs g p F k w) (t : Int) (ht : i64ok t) :
    Calls Tryz.prog 56 #[.pointer (some ⟨g, 0, none⟩), .int .i64 t] w fun e w' => e = .returned (.bool (F.vals t).isSome) ∧ w' = w := by
  have h1 := h.c1
  have hl := h.vals.has t ht
  go_enter Tryz.func56, Tryz.ntmps56
  go_wp2
  go_ret
  exact ⟨rfl, rfl⟩
set_option maxRecDepth 100000 in
theorem form_kind (g : Nat) (p : PlS) (F : FormS) (k : Nat) (w : World) (h : FormIs g p F k w) (hk : k < 9223372036854775807) :
    Calls Tryz.prog 29 #[.pointer (some ⟨g, 0, none⟩)] w fun e w' => e = .returned (.string ((F.vals 35).getD ⟨#[]⟩)) ∧
      (F.e ≠ 0 → w' = w) ∧ (F.e = 0 → FormIs g p { F with asked := fun x => if x = 35 then true else F.asked x } (k + 1) w' ∧ Turned (FormB g p) w w') := by
  have h1 := h.c1
  have h2 := h.c2
  have h4 := h.c4
  have hl := h.vals.look 35 i64_35
  have HF := Aside0.mk h
  have HIs := Aside0.mk (form_is g p F k w h)
  by_cases c : F.e = 0
  · have t1 : (F.e == 0) = true := by rw [c]; rfl
    obtain ⟨w1, hrun, hA, hgr⟩ := h.asked.put 35 i64_35 hk
    have HT : Aside0 (Turned (FormB g p) w w1) := ⟨Turned.of_grown hgr (.inr rfl)⟩
    have HF1 := Aside0.mk (h.ask hA hgr)
    have hv1 := HF1.out.vals.look 35 i64_35
    have h11 := HF1.out.c1
    clear hgr hA
    go_enter Tryz.func29, Tryz.ntmps29
    go_wp2_with (go_at_call 57; refine HIs.out.mono ?_; rintro e w' ⟨rfl, rfl⟩)
    go_ret
    exact ⟨rfl, fun e => absurd c e, fun _ => ⟨HF1.out, HT.out⟩⟩
  · have t1 : (F.e == 0) = false := by rw [beq_eq_false_iff_ne]; exact c
    go_enter Tryz.func29, Tryz.ntmps29
    go_wp2_with (go_at_call 57; refine HIs.out.mono ?_; rintro e w' ⟨rfl, rfl⟩)
    go_ret
    exact ⟨rfl, fun _ => rfl, fun e => absurd e c⟩
set_option maxRecDepth 100000 in
theorem form_done_e (g : Nat) (p : PlS) (F : FormS) (k : Nat) (w : World) (h : FormIs g p F k w) (he : F.e ≠ 0) :
    Calls Tryz.prog 31 #[.pointer (some ⟨g, 0, none⟩)] w fun e w' => e = .returned (.tuple #[.int .i64 F.tag, .int .i64 F.e]) ∧ ∃ q, w' = w.drewN q := by
  have h3 := h.c3
  have h4 := h.c4
  have HIs := Aside0.mk (form_is g p F k w h)
  have t1 : (F.e == 0) = false := by rw [beq_eq_false_iff_ne]; exact he
  have t2 : (F.e != 0) = true := by rw [bne_iff_ne]; exact he
  go_enter Tryz.func31, Tryz.ntmps31
  go_wp2_with (go_at_call 57; refine HIs.out.mono ?_; rintro e w' ⟨rfl, rfl⟩)
  go_quiet (fail)
  go_wp2
  go_ret2
  exact ⟨rfl, _, rfl⟩
def spareL (asked : Int → Bool) : List Int → Int × Int
  | [] => (0, 0)
  | t :: r => if asked t then spareL asked r else (t, 113)
theorem spareL_cons (asked : Int → Bool) (t : Int) (r : List Int) : spareL asked (t :: r) = if asked t then spareL asked r else (t, 113) := rfl
set_option maxRecDepth 100000 in
set_option maxHeartbeats 4000000 in
theorem form_done_ok (g : Nat) (p : PlS) (F : FormS) (k : Nat) (w : World) (h : FormIs g p F k w) (he : F.e = 0) (hlen : F.order.length ≤ 4611686018427387904) :
    Calls Tryz.prog 31 #[.pointer (some ⟨g, 0, none⟩)] w fun e w' => e = .returned (.tuple #[.int .i64 (spareL F.asked F.order).1, .int .i64 (spareL F.asked F.order).2]) ∧ w' = w := by
  have h0 := h.c0
  have h2 := h.c2
  have h4 := h.c4
  have HF := Aside0.mk h
  have HIs := Aside0.mk (form_is g p F k w h)
  have t2 : (F.e != 0) = false := by rw [he]; rfl
  go_enter Tryz.func31, Tryz.ntmps31
  go_wp2_with (go_at_call 57; refine HIs.out.mono ?_; rintro e w' ⟨rfl, hh⟩; obtain rfl : w = w' := hh.symm)
  go_loopw [29] (fun v29 wr => ∃ i : Nat, v29 = .int .i64 (i : Int) ∧ i ≤ F.order.length ∧ wr = w ∧ Aside0 (spareL F.asked (F.order.drop i) = spareL F.asked F.order)) (fun v29 _ => F.order.length - (intOf v29).toNat)
  case atStart => exact ⟨0, rfl, Nat.zero_le _, rfl, ⟨rfl⟩⟩
  case round =>
    obtain ⟨i, rfl, hi, rfl, HA⟩ := hrel
    by_cases hlt : i < F.order.length
    · obtain ⟨ad, hA, hc, ht⟩ := HF.out.ord i hlt
      have t1 : decide ((i : Int) < (F.order.length : Int)) = true := by rw [decide_eq_true_eq]; omega
      have hl := HF.out.asked.look _ ht
      have hd : F.order.drop i = F.order.getD i 0 :: F.order.drop (i + 1) := by
        rw [List.drop_eq_getElem_cons hlt, List.getD_eq_getElem?_getD, List.getElem?_eq_getElem hlt]; rfl
      rw [hA] at h0
      rw [hA]
      rw [hd, spareL_cons] at HA
      generalize hx : F.order.getD i 0 = x at *
      by_cases ca : F.asked x = true
      · have HA2 : Aside0 (spareL F.asked (F.order.drop (i + 1)) = spareL F.asked F.order) := ⟨by have h1 := HA.out; rw [if_pos ca] at h1; exact h1⟩
        clear HA hd hx ht hA
        rw [ca] at hl
        go_wp2
        refine ⟨⟨i + 1, by rw [show ((i + 1 : Nat) : Int) = (i : Int) + 1 by omega], by omega, trivial, HA2⟩, ?_⟩
        show F.order.length - ((i : Int) + 1).toNat < F.order.length - ((i : Int)).toNat
        omega
      · have ca' : F.asked x = false := by simpa using ca
        have HA2 : Aside0 ((x, (113 : Int)) = spareL F.asked F.order) := ⟨by have h1 := HA.out; rw [if_neg ca] at h1; exact h1⟩
        clear HA hd hx ht hA
        rw [ca'] at hl
        go_wp2
        go_ret2
        rw [← HA2.out]
        exact ⟨rfl, rfl⟩
    · have t1 : decide ((i : Int) < (F.order.length : Int)) = false := by rw [decide_eq_false_iff_not]; omega
      have HA2 : Aside0 (((0 : Int), (0 : Int)) = spareL F.asked F.order) := ⟨by have h1 := HA.out; rw [List.drop_eq_nil_of_le (by omega)] at h1; exact h1⟩
      clear HA
      go_wp2
      go_ret2
      rw [← HA2.out]
      exact ⟨rfl, rfl⟩
def doneL (F : FormS) : Int × Int := if F.e ≠ 0 then (F.tag, F.e) else spareL F.asked F.order
end Go.Proofs.YtgfigkfcmkdjdaaGreatDoor.B
end
section
namespace Go.Proofs.YtgfigkfcmkdjdaaGreatDoor.B
open Go.RowKit Go.Proofs.YtgfigkfcmkdjdaaGreatDoorW.PrintWords Go.Proofs.YtgfigkfcmkdjdaaGreatDoorW.PrintLast Go.Proofs.YtgfigkfcmkdjdaaGreatDoorW.PrintMore
attribute [local go_sem] max2_int min2_int max_two min_two max_three min_three max_four min_four   -- for this text's walks alone
set_option linter.unusedVariables false
set_option linter.unusedSimpArgs false
def takeName (s : ByteArray) : ByteArray × Int := if nameL s.data.toList 0 = true then (s, 0) else (⟨#[]⟩, 43)
theorem name_closure (s : ByteArray) (W : World) (hs : s.size ≤ 140737488351232) :
    Calls Tryz.prog 73 (#[.string s] ++ #[]) W fun e w' => e = .returned (.tuple #[.string (takeName s).1, .int .i64 (takeName s).2]) ∧ Below W.heap.size W w' := by
  have HN := Aside0.mk (roster_Valid_walk s W (by omega))
  unfold takeName
  generalize nameL s.data.toList 0 = b at *
  cases b with
  | true =>
    go_enter Tryz.func73, Tryz.ntmps73
    go_wp2_with (go_at_call 20; refine HN.out.mono ?_; rintro en w1 ⟨rfl, hb⟩)
    go_ret2
    exact ⟨rfl, hb⟩
  | false =>
    go_enter Tryz.func73, Tryz.ntmps73
    go_wp2_with (go_at_call 20; refine HN.out.mono ?_; rintro en w1 ⟨rfl, hb⟩)
    go_ret2
    exact ⟨rfl, hb⟩
set_option maxRecDepth 100000 in
set_option maxHeartbeats 4000000 in
theorem ask_string (g : Nat) (p : PlS) (F : FormS) (k : Nat) (w : World) (h : FormIs g p F k w) (hk : k < 9223372036854775807) (hv : ∀ x s, F.vals x = some s → s.size ≤ 140737488351232) (t : Int) (ht : i64ok t) :
    Calls Tryz.prog 72 #[.pointer (some ⟨g, 0, none⟩), .int .i64 t, .func (.func 73) #[] #[]] w fun e w' =>
      e = .returned (.string (askL takeName ⟨#[]⟩ F t).1) ∧ FormIs g p (askL takeName ⟨#[]⟩ F t).2 (k + 1) w' ∧ Turned (FormB g p) w w' := by
  have hc1 := h.c1
  have hc2 := h.c2
  have hc4 := h.c4
  have HF := Aside0.mk h
  have HIs := Aside0.mk (form_is g p F k w h)
  by_cases he : F.e = 0
  · have t1 : (F.e != 0) = false := by rw [he]; rfl
    obtain ⟨w1, hrun, hAs, hgr⟩ := h.asked.put t ht hk
    have HF1 : Aside0 (FormIs g p (F.mark t) (k + 1) w1) := ⟨h.ask hAs hgr⟩
    have HT : Aside0 (Turned (FormB g p) w w1) := ⟨Turned.of_grown hgr (.inr rfl)⟩
    have HH := Aside0.mk (form_has g p _ _ w1 HF1.out t ht)
    have hc11 := HF1.out.c1
    have hlk := HF1.out.vals.look t ht
    clear hgr hAs
    have hc31 := HF1.out.c3
    have hc41 := HF1.out.c4
    have hl31 := HF1.out.l3
    have hl41 := HF1.out.l4
    rw [show (F.mark t).vals t = F.vals t from rfl] at HH hlk
    cases hvt : F.vals t with
    | none =>
      have HA := Aside0.mk (askL_none takeName ⟨#[]⟩ F t he hvt)
      rw [hvt] at HH hlk
      have HE := Aside0.mk (HF1.out.fail t 110)
      have HT2 : Aside0 (Turned (FormB g p) w ((w1.setCell ⟨g, 3, none⟩ (.int .i64 t)).setCell ⟨g, 4, none⟩ (.int .i64 110))) := ⟨(HT.out.setCell (p := ⟨g, 3, none⟩) (.inl rfl) _).setCell (p := ⟨g, 4, none⟩) (.inl rfl) _⟩
      simp only [Option.isSome_none] at HH
      clear hlk
      go_enter Tryz.func72, Tryz.ntmps72
      go_wp2_with (first | (go_at_call 57; refine HIs.out.mono ?_; rintro e w' ⟨rfl, hh⟩; obtain rfl : w = w' := hh.symm) | (go_at_call 56; refine HH.out.mono ?_; rintro e w' ⟨rfl, hh⟩; obtain rfl : w1 = w' := hh.symm))
      go_ret
      rw [HA.out]
      exact ⟨rfl, HE.out, HT2.out⟩
    | some s =>
      have HA := Aside0.mk (askL_some takeName ⟨#[]⟩ F t he hvt)
      rw [hvt] at HH hlk
      simp only [Option.isSome_some, Option.getD_some] at HH hlk
      have HC := Aside0.mk (name_closure s w1 (hv t s hvt))
      try simp only at HA
      generalize hr : takeName s = r at *
      obtain ⟨n, e⟩ := r
      try simp only at HA HC
      clear hr
      have HR : Aside0 (∀ w2, Below w1.heap.size w1 w2 → FormIs g p (F.mark t) (k + 1) w2 ∧ Turned (FormB g p) w w2) := ⟨fun w2 hb => ⟨HF1.out.below hb, HT.out.trans (Turned.of_below hb)⟩⟩
      have HE : Aside0 (∀ w2, FormIs g p (F.mark t) (k + 1) w2 → Turned (FormB g p) w w2 → FormIs g p ((F.mark t).fail t e) (k + 1) ((w2.setCell ⟨g, 3, none⟩ (.int .i64 t)).setCell ⟨g, 4, none⟩ (.int .i64 e)) ∧ Turned (FormB g p) w ((w2.setCell ⟨g, 3, none⟩ (.int .i64 t)).setCell ⟨g, 4, none⟩ (.int .i64 e))) := ⟨fun w2 h2 ht2 => ⟨h2.fail t e, (ht2.setCell (p := ⟨g, 3, none⟩) (.inl rfl) _).setCell (p := ⟨g, 4, none⟩) (.inl rfl) _⟩⟩
      by_cases ce : e = 0
      · have HA2 : Aside0 (askL takeName ⟨#[]⟩ F t = (n, F.mark t)) := ⟨HA.out.trans (if_pos ce)⟩
        have t2 : (e == 0) = true := by rw [ce]; rfl
        clear HA
        go_enter Tryz.func72, Tryz.ntmps72
        go_wp2_with (first | (go_at_call 57; refine HIs.out.mono ?_; rintro e w' ⟨rfl, hh⟩; obtain rfl : w = w' := hh.symm) | (go_at_call 56; refine HH.out.mono ?_; rintro e w' ⟨rfl, hh⟩; obtain rfl : w1 = w' := hh.symm) | (go_at_call 73; refine HC.out.mono ?_; rintro en w2 ⟨rfl, hb⟩; have HR2 := Aside0.mk (HR.out w2 hb); have hc32 := HR2.out.1.c3; have hc42 := HR2.out.1.c4; have hl32 := HR2.out.1.l3; have hl42 := HR2.out.1.l4; clear hb))
        go_ret
        rw [HA2.out]
        exact ⟨rfl, HR2.out.1, HR2.out.2⟩
      · have HA2 : Aside0 (askL takeName ⟨#[]⟩ F t = (⟨#[]⟩, (F.mark t).fail t e)) := ⟨HA.out.trans (if_neg ce)⟩
        have t2 : (e == 0) = false := by rw [beq_eq_false_iff_ne]; exact ce
        clear HA
        go_enter Tryz.func72, Tryz.ntmps72
        go_wp2_with (first | (go_at_call 57; refine HIs.out.mono ?_; rintro e w' ⟨rfl, hh⟩; obtain rfl : w = w' := hh.symm) | (go_at_call 56; refine HH.out.mono ?_; rintro e w' ⟨rfl, hh⟩; obtain rfl : w1 = w' := hh.symm) | (go_at_call 73; refine HC.out.mono ?_; rintro en w2 ⟨rfl, hb⟩; have HR2 := Aside0.mk (HR.out w2 hb); have hc32 := HR2.out.1.c3; have hc42 := HR2.out.1.c4; have hl32 := HR2.out.1.l3; have hl42 := HR2.out.1.l4; clear hb))
        go_ret
        rw [HA2.out]
        exact ⟨rfl, (HE.out w2 HR2.out.1 HR2.out.2).1, (HE.out w2 HR2.out.1 HR2.out.2).2⟩
  · have HA : Aside0 (askL takeName ⟨#[]⟩ F t = (⟨#[]⟩, F)) := ⟨askL_off _ _ _ _ he⟩
    have t1 : (F.e != 0) = true := by rw [bne_iff_ne]; exact he
    go_enter Tryz.func72, Tryz.ntmps72
    go_wp2_with (go_at_call 57; refine HIs.out.mono ?_; rintro e w' ⟨rfl, hh⟩; obtain rfl : w = w' := hh.symm)
    go_ret
    rw [HA.out]
    exact ⟨rfl, HF.out.mono (by omega), Turned.refl _ _⟩
set_option maxRecDepth 100000 in
set_option maxHeartbeats 4000000 in
theorem form_name (g : Nat) (p : PlS) (F : FormS) (k : Nat) (w : World) (h : FormIs g p F k w) (hk : k < 9223372036854775807) (hv : ∀ x s, F.vals x = some s → s.size ≤ 140737488351232) (t : Int) (ht : i64ok t) :
    Calls Tryz.prog 58 #[.pointer (some ⟨g, 0, none⟩), .int .i64 t] w fun e w' =>
      e = .returned (.string (askL takeName ⟨#[]⟩ F t).1) ∧ FormIs g p (askL takeName ⟨#[]⟩ F t).2 (k + 1) w' ∧ Turned (FormB g p) w w' := by
  have HAk := Aside0.mk (ask_string g p F k w h hk hv t ht)
  go_enter Tryz.func58, Tryz.ntmps58
  go_wp2_with (go_at_call 72; refine HAk.out.mono ?_; rintro e w' ⟨rfl, h1, h2⟩)
  go_ret
  exact ⟨rfl, h1, h2⟩
inductive AskT where
  | name (t : Int)
  | int (t low high : Int)
  | ints (t : Int) (take : ByteArray → List Int × Int)
inductive ValT where
  | s (x : ByteArray)
  | n (x : Int)
  | l (x : List Int)
def ValT.str : ValT → ByteArray
  | .s x => x
  | _ => ⟨#[]⟩
def ValT.num : ValT → Int
  | .n x => x
  | _ => 0
def ValT.nums : ValT → List Int
  | .l x => x
  | _ => []
def askT : AskT → FormS → ValT × FormS
  | .name t, F => (.s (askL takeName ⟨#[]⟩ F t).1, (askL takeName ⟨#[]⟩ F t).2)
  | .int t low high, F => (.n (askL (fun s => takeInt s low high) 0 F t).1, (askL (fun s => takeInt s low high) 0 F t).2)
  | .ints t take, F => (.l (askL take [] F t).1, (askL take [] F t).2)
def asksT : List AskT → FormS → List ValT × FormS
  | [], F => ([], F)
  | a :: r, F => ((askT a F).1 :: (asksT r (askT a F).2).1, (asksT r (askT a F).2).2)
theorem asksT_cons (a : AskT) (r : List AskT) (F : FormS) : asksT (a :: r) F = ((askT a F).1 :: (asksT r (askT a F).2).1, (asksT r (askT a F).2).2) := rfl
theorem askT_name (t : Int) (F : FormS) : askT (.name t) F = (.s (askL takeName ⟨#[]⟩ F t).1, (askL takeName ⟨#[]⟩ F t).2) := rfl
theorem askT_int (t low high : Int) (F : FormS) : askT (.int t low high) F = (.n (askL (fun s => takeInt s low high) 0 F t).1, (askL (fun s => takeInt s low high) 0 F t).2) := rfl
theorem askT_ints (t : Int) (take : ByteArray → List Int × Int) (F : FormS) : askT (.ints t take) F = (.l (askL take [] F t).1, (askL take [] F t).2) := rfl
theorem asksT_name {t : Int} {r : List AskT} {F F' : FormS} {v : ByteArray} (h : askL takeName ⟨#[]⟩ F t = (v, F')) : asksT (.name t :: r) F = (.s v :: (asksT r F').1, (asksT r F').2) := by rw [asksT_cons, askT_name, h]
theorem asksT_int {t low high : Int} {r : List AskT} {F F' : FormS} {v : Int} (h : askL (fun s => takeInt s low high) 0 F t = (v, F')) : asksT (.int t low high :: r) F = (.n v :: (asksT r F').1, (asksT r F').2) := by rw [asksT_cons, askT_int, h]
theorem asksT_ints {t : Int} {take : ByteArray → List Int × Int} {r : List AskT} {F F' : FormS} {v : List Int} (h : askL take [] F t = (v, F')) : asksT (.ints t take :: r) F = (.l v :: (asksT r F').1, (asksT r F').2) := by rw [asksT_cons, askT_ints, h]
end Go.Proofs.YtgfigkfcmkdjdaaGreatDoor.B
end
section
namespace Go.Proofs.YtgfigkfcmkdjdaaGreatDoor.B
open Go.RowKit Go.Proofs.YtgfigkfcmkdjdaaGreatDoorW.PrintWords Go.Proofs.YtgfigkfcmkdjdaaGreatDoorW.PrintLast Go.Proofs.YtgfigkfcmkdjdaaGreatDoorW.PrintMore
attribute [local go_sem] max2_int min2_int max_two min_two max_three min_three max_four min_four   -- for this text's walks alone
set_option linter.unusedVariables false
set_option linter.unusedSimpArgs false
theorem drop_cons_n (s : ByteArray) (pos : Nat) (h : pos < s.size) : s.data.toList.drop pos = s[pos]'h :: s.data.toList.drop (pos + 1) := by
  rw [List.drop_eq_getElem_cons (by rw [size_list]; exact h)]; rfl
def NoIs (r : Nat × Nat) (w : World) (e : Ending) (w' : World) : Prop := e = .returned (.tuple #[.int .i64 (r.1 : Int), .int .i64 (r.2 : Int)]) ∧ Below w.heap.size w w'
theorem NoIs.mk_ {r : Nat × Nat} {w w' : World} {a b : Nat} (h : (a, b) = r) (hw : Below w.heap.size w w') : NoIs r w (.returned (.tuple #[.int .i64 (a : Int), .int .i64 (b : Int)])) w' := by
  subst h; exact ⟨rfl, hw⟩
set_option maxRecDepth 100000 in
set_option maxHeartbeats 2000000 in
theorem body_Number_walk (s : ByteArray) (w : World) (hs : s.size ≤ 140737488351232) :
    Calls Tryz.prog 76 #[.string s] w (NoIs (numP s.data.toList) w) := by
  have hsl : s.data.toList.length = s.size := rfl
  by_cases c1 : s.size = 0
  · have hnil : s.data.toList = [] := List.eq_nil_of_length_eq_zero (by omega)
    have HF := Aside0.mk (show ((0 : Nat), (112 : Nat)) = numP s.data.toList by unfold numP; rw [if_pos (.inl hnil)])
    have e1 : (s.toList == ([] : List UInt8)) = true := by rw [ByteArray.toList_eq, hnil]; rfl
    clear hnil hsl
    go_enter Tryz.func76, Tryz.ntmps76
    go_wp2
    go_ret2
    exact NoIs.mk_ HF.out (Below.refl _ _)
  · have hne : ¬ s.data.toList = [] := fun e => by rw [e] at hsl; simp at hsl; omega
    have e1 : (s.toList == ([] : List UInt8)) = false := by rw [ByteArray.toList_eq, beq_eq_false_iff_ne]; exact hne
    have hlt : (0 : Int) < (s.size : Int) := by omega
    have hx0 : s.data.toList.getD 0 0 = s[0]'(by omega) := by
      rw [List.getD_eq_getElem?_getD, List.getElem?_eq_getElem (by omega)]; rfl
    have hlt2 : 0 < s.size := by omega
    by_cases c2 : s.data.toList.getD 0 0 = 48 ∧ 1 < s.data.toList.length
    · have HF := Aside0.mk (show ((0 : Nat), (112 : Nat)) = numP s.data.toList by unfold numP; rw [if_pos (.inr c2)])
      have hb0 : (s[0]'hlt2).toNat = 48 := by rw [← hx0, c2.1]; rfl
      have e3 : decide ((1 : Int) < (s.size : Int)) = true := by rw [decide_eq_true_eq]; omega
      have e4 : decide (1 < s.size) = true := by rw [decide_eq_true_eq]; omega
      clear hne hsl c2 hx0
      go_enter Tryz.func76, Tryz.ntmps76
      go_wp2
      go_ret2
      exact NoIs.mk_ HF.out (Below.refl _ _)
    · have HN := Aside0.mk (show numP s.data.toList = noP s.data.toList 0 by unfold numP; rw [if_neg (fun e => e.elim hne c2)])
      have hcase : (((s[0]'hlt2).toNat : Int) == 48) = false ∨ ((((s[0]'hlt2).toNat : Int) == 48) = true ∧ decide ((1 : Int) < (s.size : Int)) = false ∧ decide (1 < s.size) = false) := by
        by_cases g : s.data.toList.getD 0 0 = 48
        · right
          rw [hx0] at g
          refine ⟨by rw [g]; rfl, ?_, ?_⟩ <;> rw [decide_eq_false_iff_not] <;> (intro k; exact c2 ⟨by rw [hx0]; exact g, by omega⟩)
        · left
          rw [beq_eq_false_iff_ne]
          intro k
          exact g (by rw [hx0]; exact u8_ext (by show _ = 48; omega))
      clear hne hsl c2 hx0
      rcases hcase with e2 | ⟨e2, e3, e4⟩
      all_goals
        go_enter Tryz.func76, Tryz.ntmps76
        go_wp2
        go_loopw [4] (fun t w' => ∃ pos n : Nat, w' = w.iter s pos ∧ t = .int .i64 (n : Int) ∧ pos ≤ s.size ∧ n ≤ 9223372036854775807 ∧ Aside0 (noP (s.data.toList.drop pos) n = noP s.data.toList 0)) (fun _ w' => s.size - w'.iterPos w.heap.size)
        case atStart => exact ⟨0, 0, rfl, rfl, Nat.zero_le _, by omega, ⟨rfl⟩⟩
        case round =>
          obtain ⟨pos, n, rfl, rfl, hpos, hn, hA⟩ := hrel
          clear e1 e2 hlt
          have hBel : Aside0 (∀ p, Below w.heap.size w (w.iter s p)) := ⟨fun p => (Below.refl _ _).alloc (Nat.le_refl _) _⟩
          by_cases hp : pos < s.size
          · have hcons := drop_cons_n s pos hp
            by_cases ha : (s[pos]'hp).toNat < 128
            · have hnx : ∀ ty, (Instr.next (.pointer (some ⟨w.heap.size, 0, none⟩)) true ty).run Tryz.prog (w.iter s pos) = _ := fun ty => run_next_ascii w s pos ty hp ha
              rw [hcons] at hA
              clear hcons
              generalize s[pos]'hp = b at *
              have hb48 : isDig b ↔ 48 ≤ b.toNat ∧ b.toNat ≤ 57 := Iff.rfl
              generalize hN : b.toNat = c at *
              by_cases g1 : c < 48
              · have HF := Aside0.mk (hA.out.symm.trans (noP_bad b _ n (by rw [hb48]; omega)))
                have t1 : decide ((c : Int) < 48) = true := by rw [decide_eq_true_eq]; omega
                have t2 : decide (c < 48) = true := by rw [decide_eq_true_eq]; omega
                clear hA hb48 hN g1
                go_wp2
                go_ret2
                exact NoIs.mk_ (a := 0) (b := 112) (by rw [HN.out]; exact HF.out.symm) (hBel.out _)
              have t1 : decide ((c : Int) < 48) = false := by rw [decide_eq_false_iff_not]; omega
              have t2 : decide (c < 48) = false := by rw [decide_eq_false_iff_not]; omega
              by_cases g2 : 57 < c
              · have HF := Aside0.mk (hA.out.symm.trans (noP_bad b _ n (by rw [hb48]; omega)))
                have t3 : decide ((57 : Int) < (c : Int)) = true := by rw [decide_eq_true_eq]; omega
                have t4 : decide (57 < c) = true := by rw [decide_eq_true_eq]; omega
                clear hA hb48 hN g1 g2
                go_wp2
                go_ret2
                exact NoIs.mk_ (a := 0) (b := 112) (by rw [HN.out]; exact HF.out.symm) (hBel.out _)
              have t3 : decide ((57 : Int) < (c : Int)) = false := by rw [decide_eq_false_iff_not]; omega
              have t4 : decide (57 < c) = false := by rw [decide_eq_false_iff_not]; omega
              have hdig : isDig b := hb48.2 ⟨by omega, by omega⟩
              have k1 : wrap32 ((c : Int) - 48) = (c : Int) - 48 := by unfold wrap32; omega
              have k2 : wrap64 ((c : Int) - 48) = (c : Int) - 48 := by unfold wrap64; omega
              have k3 : wrap64 (9223372036854775807 - ((c : Int) - 48)) = 9223372036854775807 - ((c : Int) - 48) := by unfold wrap64; omega
              have k4 : Int.tdiv (9223372036854775807 - ((c : Int) - 48)) 10 = (9223372036854775807 - ((c : Int) - 48)) / 10 := Int.tdiv_eq_ediv_of_nonneg (by omega)
              by_cases g3 : 9223372036854775807 < 10 * n + (c - 48)
              · have HF := Aside0.mk (hA.out.symm.trans (noP_big b _ n hdig (by rw [hN]; exact g3)))
                have t5 : decide ((9223372036854775807 - ((c : Int) - 48)) / 10 < (n : Int)) = true := by rw [decide_eq_true_eq]; omega
                clear hA hb48 hN g1 g2 g3 hdig
                go_wp2
                go_ret2
                exact NoIs.mk_ (a := 0) (b := 112) (by rw [HN.out]; exact HF.out.symm) (hBel.out _)
              · have HA2 := Aside0.mk ((noP_go b (s.data.toList.drop (pos + 1)) n hdig (by rw [hN]; exact g3)).symm.trans hA.out)
                rw [hN] at HA2
                have t5 : decide ((9223372036854775807 - ((c : Int) - 48)) / 10 < (n : Int)) = false := by rw [decide_eq_false_iff_not]; omega
                have k5 : wrap64 (10 * (n : Int)) = 10 * (n : Int) := by unfold wrap64; omega
                have k6 : wrap64 (10 * (n : Int) + ((c : Int) - 48)) = 10 * (n : Int) + ((c : Int) - 48) := by unfold wrap64; omega
                have hv : ((10 * n + (c - 48) : Nat) : Int) = 10 * (n : Int) + ((c : Int) - 48) := by omega
                have HV := Aside0.mk (And.intro hv (show 10 * n + (c - 48) ≤ 9223372036854775807 by omega))
                clear hA hb48 hN g1 g2 g3 hdig hv
                go_wp2
                go_roundw
                case rel => exact ⟨pos + 1, 10 * n + (c - 48), rfl, by have := HV.out.1; simp only [Value.int.injEq, true_and]; omega, hp, HV.out.2, HA2⟩
                case measure => simp; omega
            · have hnx : ∀ ty, (Instr.next (.pointer (some ⟨w.heap.size, 0, none⟩)) true ty).run Tryz.prog (w.iter s pos) = _ := fun ty => run_next_any w s pos ty hp
              have hh := (decode_high s pos hp (by omega)).1
              have hle := decode_le s pos
              rw [hcons] at hA
              have HF := Aside0.mk (hA.out.symm.trans (noP_bad (s[pos]'hp) _ n (by unfold isDig; omega)))
              clear hA hcons ha
              generalize (Utf8.decode s pos).1 = r at *
              generalize (Utf8.decode s pos).2 = wd at *
              have t1 : decide ((r : Int) < 48) = false := by rw [decide_eq_false_iff_not]; omega
              have t2 : decide (r < 48) = false := by rw [decide_eq_false_iff_not]; omega
              have t3 : decide ((57 : Int) < (r : Int)) = true := by rw [decide_eq_true_eq]; omega
              have t4 : decide (57 < r) = true := by rw [decide_eq_true_eq]; omega
              go_wp2
              go_ret2
              exact NoIs.mk_ (a := 0) (b := 112) (by rw [HN.out]; exact HF.out.symm) (hBel.out _)
          · have hnx : ∀ ty, (Instr.next (.pointer (some ⟨w.heap.size, 0, none⟩)) true ty).run Tryz.prog (w.iter s pos) = _ := fun ty => run_next_end w s pos ty hp
            have HF := Aside0.mk ((show noP (s.data.toList.drop pos) n = (n, 0) by rw [List.drop_eq_nil_of_le (by rw [size_list]; omega)]; rfl).symm.trans hA.out)
            clear hA
            go_wp2
            go_ret2
            exact NoIs.mk_ (a := n) (b := 0) (by rw [HN.out]; exact HF.out) (hBel.out _)
def body_Number.f (a0 : ByteArray) : Option (Int × Int) := if a0.size ≤ 140737488351232 then some (((numP a0.data.toList).1 : Int), ((numP a0.data.toList).2 : Int)) else none
theorem body_Number.calls (a0 : ByteArray) (r1 r2 : Int) (w : World) (h : body_Number.f a0 = some (r1, r2)) :
    Calls Tryz.prog 76 #[.string a0] w fun e w' => e = .returned (.tuple #[.int .i64 r1, .int .i64 r2]) ∧ Below w.heap.size w w' := by
  unfold body_Number.f at h
  by_cases c : a0.size ≤ 140737488351232
  · rw [if_pos c] at h
    simp only [Option.some.injEq, Prod.mk.injEq] at h
    obtain ⟨rfl, rfl⟩ := h
    exact body_Number_walk a0 w c
  · rw [if_neg c] at h; cases h
end Go.Proofs.YtgfigkfcmkdjdaaGreatDoor.B
end
section
namespace Go.Proofs.YtgfigkfcmkdjdaaGreatDoor.B
open Go.RowKit Go.Proofs.YtgfigkfcmkdjdaaGreatDoorW.PrintWords Go.Proofs.YtgfigkfcmkdjdaaGreatDoorW.PrintLast Go.Proofs.YtgfigkfcmkdjdaaGreatDoorW.PrintMore
attribute [local go_sem] max2_int min2_int max_two min_two max_three min_three max_four min_four   -- for this text's walks alone
set_option linter.unusedVariables false
set_option linter.unusedSimpArgs false
theorem split_reps (w : World) (base : Nat) (ok : Nat → Prop) : ∀ xs : List ByteArray, Reps (Kd.string.M w base ok) 1 xs (xs.map Value.string)
  | [] => Reps.none _ _
  | x :: xs => Reps.one rfl (split_reps w base ok xs)
def strings_Split.f (a0 a1 : ByteArray) : Option (List ByteArray) := if a0.size < 4294967281 ∧ 1 ≤ a1.size then some (Lib.splitB a1 0 (Lib.countB a0 a1) a0) else none
theorem strings_Split.calls (a0 a1 : ByteArray) (r : List ByteArray) (w : World) (hT_ : Aside0 (Tabs_ w)) (h : strings_Split.f a0 a1 = some r) :
    Calls Tryz.prog 92 #[.string a0, .string a1] w fun e w' => ∃ v0_ : Value, e = .returned (v0_) ∧ Kd.R Kd.string 9 w' w.heap.size (fun _ => True) v0_ r ∧ Below w.heap.size w w' := by
  unfold strings_Split.f at h
  by_cases c : a0.size < 4294967281 ∧ 1 ≤ a1.size
  · rw [if_pos c] at h
    obtain rfl := Option.some.inj h
    obtain ⟨m, hm⟩ := hT_.out.max
    have hl := Lib.splitB_all a1 c.2 0 _ a0 rfl
    have hle := Lib.splitB_length_le a1 0 (Lib.countB a0 a1) a0
    refine (Tryz.strings_Split a0 a1 m w c.1 hm c.2).mono ?_
    rintro e w' ⟨rfl, rfl⟩
    refine ⟨_, rfl, ⟨fun _ _ => trivial, ?_⟩, (Below.refl _ _).alloc (Nat.le_refl _) _⟩
    have hcnt : Lib.countB a0 a1 ≤ a0.size := Lib.countB_le a1 c.2 a0.size a0 (Nat.le_refl _)
    have := OwnRow.lit (e := 9) w w.heap.size (split_reps (w.alloc (.cells ((Lib.splitB a1 0 (Lib.countB a0 a1) a0).map Value.string).toArray 9)) w.heap.size (fun k => True ∧ some k ≠ Value.ownBlock (.slice (some ⟨w.heap.size, 0, none⟩) (Lib.countB a0 a1 + 1) (Lib.countB a0 a1 + 1))) (Lib.splitB a1 0 (Lib.countB a0 a1) a0)) (Nat.le_refl _) (by omega)
    rw [hl] at this
    exact this
  · rw [if_neg c] at h; cases h
theorem splitK_ne (c b : UInt8) (h : b ≠ c) : ∀ (k : Nat) (l : List UInt8), Lib.splitK [c] 0 k (b :: l) = consHead b (Lib.splitK [c] 0 k l)
  | 0, l => rfl
  | k + 1, l => by
    have hp : ([c] : List UInt8).isPrefixOf (b :: l) = false := by simp [List.isPrefixOf, Ne.symm h]
    have hix : Lib.index (b :: l) [c] = if Lib.index l [c] == -1 then -1 else Lib.index l [c] + 1 := by rw [Lib.index, hp]; simp
    unfold Lib.splitK
    by_cases hm : Lib.index l [c] = -1
    · rw [hix, if_pos (beq_iff_eq.2 hm), hm]; rfl
    · have hge := Lib.index_ge l [c]
      obtain ⟨j, hj⟩ : ∃ j : Nat, Lib.index l [c] = j := ⟨(Lib.index l [c]).toNat, by omega⟩
      rw [hix, if_neg (fun e => hm (beq_iff_eq.1 e)), hj]
      have e1 : ¬ (((j : Int) + 1) == -1) = true := by simp; omega
      have e2 : ¬ (((j : Int)) == -1) = true := by simp
      rw [if_neg e1, if_neg e2]
      have e3 : ((j : Int) + 1).toNat = j + 1 := by omega
      rw [e3, Int.toNat_natCast]
      simp [consHead]
theorem splitK_splitC (c : UInt8) : ∀ l : List UInt8, Lib.splitK [c] 0 (Lib.count l [c]) l = splitC c l
  | [] => by rw [Lib.count_miss (by simp [Lib.index])]; rfl
  | b :: l => by
    unfold splitC
    by_cases h : b = c
    · subst h
      rw [if_pos rfl, Lib.count_cons_eq, Nat.add_comm, ← splitK_splitC b l]
      have hix : Lib.index (b :: l) [b] = 0 := by rw [Lib.index]; simp [List.isPrefixOf]
      rw [show Lib.splitK [b] 0 (Lib.count l [b] + 1) (b :: l) = if Lib.index (b :: l) [b] == -1 then [b :: l] else (b :: l).take ((Lib.index (b :: l) [b]).toNat + 0) :: Lib.splitK [b] 0 (Lib.count l [b]) ((b :: l).drop ((Lib.index (b :: l) [b]).toNat + [b].length)) from rfl, hix]
      simp
    · rw [if_neg h, Lib.count_cons_ne b c l h, splitK_ne c b h, splitK_splitC c l]
theorem split_spec (s : ByteArray) (c : UInt8) (h : s.size < 4294967281) : ∃ r, strings_Split.f s (⟨#[c]⟩ : ByteArray) = some r ∧ r.map (·.data.toList) = splitC c s.data.toList := by
  refine ⟨Lib.splitB ⟨#[c]⟩ 0 (Lib.countB s ⟨#[c]⟩) s, by unfold strings_Split.f; rw [if_pos ⟨h, Nat.le_refl _⟩], ?_⟩
  rw [Lib.splitB_data, ← splitK_splitC c]
end Go.Proofs.YtgfigkfcmkdjdaaGreatDoor.B
end
section
namespace Go.Proofs.YtgfigkfcmkdjdaaGreatDoor.B
open Go.RowKit Go.Proofs.YtgfigkfcmkdjdaaGreatDoorW.PrintWords Go.Proofs.YtgfigkfcmkdjdaaGreatDoorW.PrintLast Go.Proofs.YtgfigkfcmkdjdaaGreatDoorW.PrintMore
attribute [local go_sem] max2_int min2_int max_two min_two max_three min_three max_four min_four   -- for this text's walks alone
set_option linter.unusedVariables false
set_option linter.unusedSimpArgs false
def body_Numbers_p.l0 : Nat → List Int → List ByteArray → Int → Int → Option (List Int × Int)
  | 0, _, _, _, _ => none
  | k + 1, x4, x10, x11, x12 => if x12 < x11 then (if 0 ≤ x12 then (if x12 < (x10.length : Int) then ((body_Number.f (rdOf ByteArray.empty x10 x12)).bind fun bt154 => (if bt154.2 = 0 then (if x4.length < 17592186044416 then (body_Numbers_p.l0 k (x4 ++ [bt154.1]) x10 x11 (wrap64 (x12 + 1))) else (none)) else (some (([] : List Int), bt154.2)))) else (none)) else (none)) else (some (x4, 0))
def body_Numbers_p.f (k : Nat) (a0 : ByteArray) : Option (List Int × Int) := (strings_Split.f a0 (⟨#[44]⟩ : ByteArray)).bind fun t150 => (body_Numbers_p.l0 k ([] : List Int) t150 (t150.length : Int) 0)
theorem body_Numbers_p.mono_l : ∀ k, (∀ y0 y1 y2 y3, LeO (body_Numbers_p.l0 k y0 y1 y2 y3) (body_Numbers_p.l0 (k + 1) y0 y1 y2 y3))
  | 0 => fun _ _ _ _ r h => by simp [body_Numbers_p.l0] at h
  | k + 1 => by
    have ih0 := body_Numbers_p.mono_l k
    · intro y0 y1 y2 y3
      unfold body_Numbers_p.l0
      repeat' first
      | (with_reducible exact ih0 _ _ _ _)
      | (with_reducible exact LeO.refl _)
      | (with_reducible exact LeO.none _)
      | (with_reducible refine LeO.ite ?_ ?_)
      | (with_reducible refine LeO.bind ?_ (fun _ => ?_))
      | exact ih0 _ _ _ _
      | exact LeO.none _
      | refine LeO.ite ?_ ?_
      | refine LeO.bind ?_ (fun _ => ?_)
theorem body_Numbers_p.mono : ∀ a0 k, LeO (body_Numbers_p.f k a0) (body_Numbers_p.f (k + 1) a0) := by
  intro a0 k
  have ih0 := body_Numbers_p.mono_l k
  unfold body_Numbers_p.f
  repeat' first
      | (with_reducible exact ih0 _ _ _ _)
      | (with_reducible exact LeO.refl _)
      | (with_reducible exact LeO.none _)
      | (with_reducible refine LeO.ite ?_ ?_)
      | (with_reducible refine LeO.bind ?_ (fun _ => ?_))
      | exact ih0 _ _ _ _
      | exact LeO.none _
      | refine LeO.ite ?_ ?_
      | refine LeO.bind ?_ (fun _ => ?_)
set_option maxHeartbeats 8000000 in
set_option maxRecDepth 100000 in
theorem body_Numbers_p.calls (k : Nat) (a0 : ByteArray) (r1 : List Int) (r2 : Int) (w : World) (hT_ : Aside0 (Tabs_ w)) (h : body_Numbers_p.f k a0 = some (r1, r2)) :
    Calls Tryz.prog 79 #[.string a0] w fun e w' => ∃ v0_ : Value, e = .returned (.tuple #[v0_, .int .i64 r2]) ∧ Kd.R (Kd.int .i64) 3 w' w.heap.size (fun _ => True) v0_ r1 ∧ Below w.heap.size w w' := by
  have HB := Aside0.mk (Below.refl w.heap.size w)
  have H : ((strings_Split.f a0 (⟨#[44]⟩ : ByteArray)).bind fun t150 => (body_Numbers_p.l0 k ([] : List Int) t150 (t150.length : Int) 0)) = some (r1, r2) := h
  clear h
  replace H := Option.bind_eq_some_iff.mp H
  obtain ⟨t150, A20, H⟩ := H
  replace H : (body_Numbers_p.l0 k ([] : List Int) t150 (t150.length : Int) 0) = some (r1, r2) := H
  have A2 := Aside0.mk A20
  clear A20
  have H' := Aside0.mk H
  clear H
  go_enter Tryz.func79, Tryz.ntmps79
  go_wp2_with (first | ((with_reducible refine gate_callee (f := 92) rfl ?_); refine goesL_ (some 10) rfl rfl Tryz.func92 (by kernel_rfl) rfl #[.string a0, .string (⟨#[44]⟩ : ByteArray)] rfl (by (try simp only [List.map_toArray, List.map_cons, List.map_nil]); first | done | rfl | (simp only [List.length_drop, List.length_take]; rfl)) ?_; (with_reducible refine (strings_Split.calls a0 (⟨#[44]⟩ : ByteArray) t150 _ ?side1 A2.out).mono ?_); (case side1 => exact Aside0.mk (Tabs_.below hT_.out (by repeat (first | (with_reducible first | exact HB.out | apply below_alloc | apply pw_below_drewN | apply below_drew1) | exact HB.out)))); rintro e w3 ⟨v151, rfl, ho0, hb⟩; refine ⟨_, rfl, ?_⟩; have n0_ := Aside0.mk (Kd.R_lower ho0 (below_size (by repeat (first | (with_reducible first | exact HB.out | apply below_alloc | apply pw_below_drewN | apply below_drew1) | exact HB.out)))); have n1_ := Aside0.mk (below_step (by repeat (first | (with_reducible first | exact HB.out | apply below_alloc | apply pw_below_drewN | apply below_drew1) | exact HB.out)) hb); clear HB; have HO152 := n0_; have HB := n1_; clear n0_ n1_; (try clear hb); (try clear hb2); (try clear hk); (try clear hi); (try clear ho0); obtain ⟨Ao4, co4, eo4⟩ := Kd.R_slice HO152.out; subst eo4))
  go_loopg [4, 12] k (fun kq v4 v12 w' => ∃ (x4_1 : List Int) (x12_1 : Int), v12 = .int .i64 x12_1 ∧ Aside0 (body_Numbers_p.l0 kq x4_1 t150 (t150.length : Int) x12_1 = some (r1, r2)) ∧ Aside0 (kq ≤ k) ∧ Aside0 (Kd.R (Kd.int .i64) 3 w' w.heap.size (fun _ => True) v4 x4_1) ∧ Aside0 (Kd.R Kd.string 9 w' w.heap.size (fun _ => True) (.slice Ao4 t150.length co4) t150) ∧ Aside0 (Below w.heap.size w w'))
  case atStart => exact ⟨(([] : List Int)), (0), (by first | rfl | (simp; done) | (simp [*]; done)), H', ⟨Nat.le_refl _⟩, ⟨by first | exact Kd.R_nil _ _ _ _ _ | exact Kd.N_nil _ _ _ _ _ | exact Kd.V_nil _ _ _ _ _ | exact Kd.Q_nil _ _ _ _ _ | exact Kd.S_nil _ _ _ _ _⟩, ⟨by (with_reducible repeat (first | apply Kd.R_alloc | apply Kd.R_drewN | apply Kd.R_drew)); exact HO152.out⟩, ⟨by repeat (first | (with_reducible first | exact HB.out | apply below_alloc | apply pw_below_drewN | apply below_drew1) | exact HB.out)⟩⟩
  case round =>
    clear H'
    try clear p2
    obtain ⟨x4_1, x12_1, rfl, HA, HK1, HO_4, HO_10, HB⟩ := hrel
    cases gk with
    | zero => exact absurd HA.out (by simp [body_Numbers_p.l0])
    | succ k1 =>
      have H := HA.out
      clear HA
      simp only [body_Numbers_p.l0] at H
      by_cases c5 : x12_1 < (t150.length : Int)
      · rw [if_pos c5] at H
        have c5b0 : decide (x12_1 < (t150.length : Int)) = true := decide_eq_true c5
        clear c5
        by_cases c6 : 0 ≤ x12_1
        · rw [if_pos c6] at H
          have c6b0 : decide (0 ≤ x12_1) = true := decide_eq_true c6
          clear c6
          by_cases c7 : x12_1 < (t150.length : Int)
          · rw [if_pos c7] at H
            have c7b0 : decide (x12_1 < (t150.length : Int)) = true := decide_eq_true c7
            clear c7
            replace H := Option.bind_eq_some_iff.mp H
            obtain ⟨⟨t154, t155⟩, A80, H⟩ := H
            replace H : (if t155 = 0 then (if x4_1.length < 17592186044416 then (body_Numbers_p.l0 k1 (x4_1 ++ [t154]) t150 (t150.length : Int) (wrap64 (x12_1 + 1))) else (none)) else (some (([] : List Int), t155))) = some (r1, r2) := H
            have A8 := Aside0.mk A80
            clear A80
            by_cases c9 : t155 = 0
            · rw [if_pos c9] at H
              have c9b0 : (t155 == 0) = true := beq_iff_eq.mpr c9
              have c9b1 : (t155 != 0) = false := bne_eq_false_iff_eq.mpr c9
              clear c9
              by_cases c10 : x4_1.length < 17592186044416
              · rw [if_pos c10] at H
                have LMc10 := Aside0.mk c10
                clear c10
                obtain ⟨y156, hy156⟩ : ∃ y_ : List Int, y_ = (x4_1 ++ [t154]) := ⟨_, rfl⟩
                replace H : (body_Numbers_p.l0 k1 y156 t150 (t150.length : Int) (wrap64 (x12_1 + 1))) = some (r1, r2) := by first | (rw [hy156]; with_reducible exact H) | (have H2_ := (Option.bind_some _ _).symm.trans H; rw [hy156]; with_reducible exact H2_) | (have H2_ := (Option.bind_some _ _).symm.trans H; with_reducible exact H2_) | with_reducible exact H | (rw [hy156]; exact H) | exact H
                have Ny156 := Aside0.mk hy156
                clear hy156
                have H' := Aside0.mk H
                clear H
                have p153 : 0 ≤ (x12_1 : Int) := of_decide_eq_true (by first | (with_reducible assumption) | assumption)
                have q153 : x12_1 < (t150.length : Int) := of_decide_eq_true (by first | (with_reducible assumption) | assumption)
                obtain ⟨ad153, e153, hx153_0⟩ := Kd.at_string (Kd.R_reads' HO_10.out).2.2 x12_1 p153 q153
                cases e153
                replace p153 := eq_true p153
                replace q153 := eq_true q153
                go_wp2_with (first | ((with_reducible refine gate_callee (f := 76) rfl ?_); refine goesL_ (some 18) rfl rfl Tryz.func76 (by kernel_rfl) rfl #[.string (rdOf ByteArray.empty t150 x12_1)] rfl (by (try simp only [List.map_toArray, List.map_cons, List.map_nil]); first | done | rfl | (simp only [List.length_drop, List.length_take]; rfl)) ?_; (with_reducible refine (body_Number.calls (rdOf ByteArray.empty t150 x12_1) t154 t155 _ A8.out).mono ?_); rintro e w11 ⟨rfl, hb⟩; refine ⟨_, rfl, ?_⟩; have n0_ := Aside0.mk (Kd.R_below (by (with_reducible repeat (first | apply Kd.R_alloc | apply Kd.R_drewN | apply Kd.R_drew)); exact HO_4.out) hb); have n1_ := Aside0.mk (Kd.R_below (by (with_reducible repeat (first | apply Kd.R_alloc | apply Kd.R_drewN | apply Kd.R_drew)); exact HO_10.out) hb); have n2_ := Aside0.mk (below_step (by repeat (first | (with_reducible first | exact HB.out | apply below_alloc | apply pw_below_drewN | apply below_drew1) | exact HB.out)) hb); clear HO_4; clear HO_10; clear HB; have HO_4 := n0_; have HO_10 := n1_; have HB := n2_; clear n0_ n1_ n2_; (try clear hb); (try clear hb2); (try clear hk); (try clear hi)) | ((with_reducible refine gate_builtin (b := .append) (xs := #[.tmp 24, .tmp 26]) rfl ?_); at_builtin; refine Kd.R_append (Kd.int .i64) (w0 := w) w.heap.size rfl (.tmp 24) (.tmp 26) 22 3 (.int .i64 0) 8 rfl Tryz.underlying22 info3 rfl (by decide) (by omega) u4 x4_1 t154 [.int .i64 t154] (fun _ => True) (fun _ => False) rfl rfl ?aP (fun _ hk => hk.elim) ?aF ?aO ?aB ?aS ?aL ?_; (case aP => exact rfl); (case aB => exact (by repeat (first | (with_reducible first | exact HB.out | apply below_alloc | apply pw_below_drewN | apply below_drew1) | exact HB.out))); (case aF => exact (fun _ _ => trivial)); (case aO => exact (by (with_reducible repeat (first | apply Kd.R_alloc | apply Kd.R_drewN | apply Kd.R_drew)); exact HO_4.out)); (case aS => exact (below_size (by repeat (first | (with_reducible first | exact HB.out | apply below_alloc | apply pw_below_drewN | apply below_drew1) | exact HB.out)))); (case aL => have := LMc10.out; omega); intro v157 w12 ho hb hg hat; rw [← Ny156.out] at ho; have n0_ := Aside0.mk (Kd.R_over' (by (with_reducible repeat (first | apply Kd.R_alloc | apply Kd.R_drewN | apply Kd.R_drew)); exact HO_10.out) (Kd.R_typed (by (with_reducible repeat (first | apply Kd.R_alloc | apply Kd.R_drewN | apply Kd.R_drew)); exact HO_4.out)) (by decide) hg); have n1_ := Aside0.mk (hb); have n2_ := Aside0.mk (ho); clear HO_10; clear HB; clear HO_4; have HO_10 := n0_; have HB := n1_; have HO158 := n2_; clear n0_ n1_ n2_; clear ho hb hg hat))
                go_roundg k1
                case measure => have := HK1.out; omega
                case rel => exact ⟨(y156), (wrap64 (x12_1 + 1)), (by first | rfl | (simp; done) | (simp [*]; done)), H', ⟨by have := HK1.out; omega⟩, ⟨by (with_reducible repeat (first | apply Kd.R_alloc | apply Kd.R_drewN | apply Kd.R_drew)); exact HO158.out⟩, ⟨by (with_reducible repeat (first | apply Kd.R_alloc | apply Kd.R_drewN | apply Kd.R_drew)); exact HO_10.out⟩, ⟨by repeat (first | (with_reducible first | exact HB.out | apply below_alloc | apply pw_below_drewN | apply below_drew1) | exact HB.out)⟩⟩
              · rw [if_neg c10] at H
                exact absurd H (by simp)
            · rw [if_neg c9] at H
              have c9b0 : (t155 == 0) = false := beq_eq_false_iff_ne.mpr c9
              have c9b1 : (t155 != 0) = true := bne_iff_ne.mpr c9
              simp only [Option.some.injEq, Prod.mk.injEq] at H
              obtain ⟨rfl, rfl⟩ := H
              have p153 : 0 ≤ (x12_1 : Int) := of_decide_eq_true (by first | (with_reducible assumption) | assumption)
              have q153 : x12_1 < (t150.length : Int) := of_decide_eq_true (by first | (with_reducible assumption) | assumption)
              obtain ⟨ad153, e153, hx153_0⟩ := Kd.at_string (Kd.R_reads' HO_10.out).2.2 x12_1 p153 q153
              cases e153
              replace p153 := eq_true p153
              replace q153 := eq_true q153
              go_wp2_with (first | ((with_reducible refine gate_callee (f := 76) rfl ?_); refine goesL_ (some 18) rfl rfl Tryz.func76 (by kernel_rfl) rfl #[.string (rdOf ByteArray.empty t150 x12_1)] rfl (by (try simp only [List.map_toArray, List.map_cons, List.map_nil]); first | done | rfl | (simp only [List.length_drop, List.length_take]; rfl)) ?_; (with_reducible refine (body_Number.calls (rdOf ByteArray.empty t150 x12_1) t154 t155 _ A8.out).mono ?_); rintro e w13 ⟨rfl, hb⟩; refine ⟨_, rfl, ?_⟩; have n0_ := Aside0.mk (Kd.R_below (by (with_reducible repeat (first | apply Kd.R_alloc | apply Kd.R_drewN | apply Kd.R_drew)); exact HO_4.out) hb); have n1_ := Aside0.mk (Kd.R_below (by (with_reducible repeat (first | apply Kd.R_alloc | apply Kd.R_drewN | apply Kd.R_drew)); exact HO_10.out) hb); have n2_ := Aside0.mk (below_step (by repeat (first | (with_reducible first | exact HB.out | apply below_alloc | apply pw_below_drewN | apply below_drew1) | exact HB.out)) hb); clear HO_4; clear HO_10; clear HB; have HO_4 := n0_; have HO_10 := n1_; have HB := n2_; clear n0_ n1_ n2_; (try clear hb); (try clear hb2); (try clear hk); (try clear hi)))
              go_ret2
              exact ⟨_, by first | rfl | (simp [errW_none, errW_some] <;> rfl) | (simp [*, errW_none, errW_some] <;> rfl), by first | exact Kd.R_nil _ _ _ _ _ | exact Kd.N_nil _ _ _ _ _ | exact Kd.V_nil _ _ _ _ _ | exact Kd.Q_nil _ _ _ _ _ | exact Kd.S_nil _ _ _ _ _, by repeat (first | (with_reducible first | exact HB.out | apply below_alloc | apply pw_below_drewN | apply below_drew1) | exact HB.out)⟩
          · rw [if_neg c7] at H
            exact absurd H (by simp)
        · rw [if_neg c6] at H
          exact absurd H (by simp)
      · rw [if_neg c5] at H
        have c5b0 : decide (x12_1 < (t150.length : Int)) = false := decide_eq_false c5
        clear c5
        simp only [Option.some.injEq, Prod.mk.injEq] at H
        obtain ⟨rfl, rfl⟩ := H
        go_wp2
        go_ret2
        exact ⟨_, by first | rfl | (simp [errW_none, errW_some] <;> rfl) | (simp [*, errW_none, errW_some] <;> rfl), by (with_reducible repeat (first | apply Kd.R_alloc | apply Kd.R_drewN | apply Kd.R_drew)); exact HO_4.out, by repeat (first | (with_reducible first | exact HB.out | apply below_alloc | apply pw_below_drewN | apply below_drew1) | exact HB.out)⟩
def numsP : List (List UInt8) → List Int → List Int × Int
  | [], acc => (acc, 0)
  | w :: ws, acc => if (numP w).2 = 0 then numsP ws (acc ++ [((numP w).1 : Int)]) else ([], ((numP w).2 : Int))
theorem numsP_cons (w : List UInt8) (ws : List (List UInt8)) (acc : List Int) : numsP (w :: ws) acc = if (numP w).2 = 0 then numsP ws (acc ++ [((numP w).1 : Int)]) else ([], ((numP w).2 : Int)) := rfl
theorem body_Numbers_loop (ws : List ByteArray) (hs : ∀ w ∈ ws, w.size ≤ 140737488351232) (hl : ws.length ≤ 4294967281) (d : Nat) : ∀ (i : Nat) (acc : List Int), i + d = ws.length → acc.length ≤ i →
    Ev (fun k => body_Numbers_p.l0 k acc ws (ws.length : Int) (i : Int)) (numsP ((ws.drop i).map (·.data.toList)) acc) := by
  induction d with
  | zero =>
    intro i acc hi ha
    rw [List.drop_eq_nil_of_le (by omega)]
    refine Ev.step (f := fun _ => some (acc, 0)) (fun k => ?_) (Ev.now _)
    simp only [body_Numbers_p.l0]
    rw [if_neg (by omega)]
  | succ d ih =>
    intro i acc hi ha
    have hlt : i < ws.length := by omega
    have hw := hs _ (List.getElem_mem hlt)
    have e1 : rdOf ByteArray.empty ws (i : Int) = ws[i] := by simp [rdOf, hlt]
    have e2 : wrap64 ((i : Int) + 1) = ((i + 1 : Nat) : Int) := by rw [w64 (by omega) (by omega)]; omega
    rw [List.drop_eq_getElem_cons hlt, List.map_cons, numsP_cons]
    generalize ws[i] = x at *
    by_cases c : (numP x.data.toList).2 = 0
    · rw [if_pos c]
      refine Ev.step (fun k => ?_) (ih (i + 1) (acc ++ [((numP x.data.toList).1 : Int)]) (by omega) (by simp; omega))
      simp only [body_Numbers_p.l0]
      rw [if_pos (by omega), if_pos (by omega), if_pos (by omega), e1, e2]
      unfold body_Number.f
      rw [if_pos hw]
      simp only [Option.bind_some]
      rw [if_pos (by omega), if_pos (by omega)]
    · rw [if_neg c]
      refine Ev.step (f := fun _ => some ([], ((numP x.data.toList).2 : Int))) (fun k => ?_) (Ev.now _)
      simp only [body_Numbers_p.l0]
      rw [if_pos (by omega), if_pos (by omega), if_pos (by omega), e1]
      unfold body_Number.f
      rw [if_pos hw]
      simp only [Option.bind_some]
      rw [if_neg (by omega)]
theorem splitC_sizes (c : UInt8) (l : List UInt8) : (splitC c l).length ≤ l.length + 1 ∧ ∀ w ∈ splitC c l, w.length ≤ l.length := by
  induction l with
  | nil => simp [splitC]
  | cons b l ih =>
    unfold splitC
    split
    · refine ⟨by simp; omega, fun w hw => ?_⟩
      rcases List.mem_cons.1 hw with rfl | hw
      · simp
      · have := ih.2 w hw; simp; omega
    · have hne := splitC_ne c l
      cases h : splitC c l with
      | nil => exact absurd h hne
      | cons x t =>
        rw [h] at ih
        simp only [consHead]
        refine ⟨by have := ih.1; simp at this ⊢; omega, fun w hw => ?_⟩
        rcases List.mem_cons.1 hw with rfl | hw
        · have := ih.2 x (by simp); simp; omega
        · have := ih.2 w (by simp [hw]); simp; omega
theorem numsP_range (ws : List (List UInt8)) : ∀ acc : List Int, ((numsP ws acc).2 = 0 ∧ (numsP ws acc).1.length = acc.length + ws.length) ∨ ((numsP ws acc).2 = 112 ∧ (numsP ws acc).1 = []) := by
  induction ws with
  | nil => intro acc; exact .inl ⟨rfl, rfl⟩
  | cons w ws ih =>
    intro acc
    rw [numsP_cons]
    by_cases c : (numP w).2 = 0
    · rw [if_pos c]
      rcases ih (acc ++ [((numP w).1 : Int)]) with h | h
      · exact .inl ⟨h.1, by rw [h.2]; simp; omega⟩
      · exact .inr h
    · rw [if_neg c]
      rcases (numP_range w).2 with h | h
      · exact absurd h c
      · exact .inr ⟨by rw [h.1]; rfl, rfl⟩
theorem body_Numbers_ev (s : ByteArray) (hs : s.size < 4294967281) : Ev (fun k => body_Numbers_p.f k s) (numsP (splitC 44 s.data.toList) []) := by
  obtain ⟨r, h1, h2⟩ := split_spec s 44 hs
  have hz := splitC_sizes 44 s.data.toList
  have hsl : s.data.toList.length = s.size := rfl
  rw [← h2] at hz ⊢
  rw [List.length_map] at hz
  have go := body_Numbers_loop r (fun w hw => by
    have := hz.2 _ (List.mem_map.2 ⟨w, hw, rfl⟩)
    have e : w.data.toList.length = w.size := rfl
    omega) (by omega) r.length 0 [] (by omega) (by simp)
  rw [List.drop_zero] at go
  refine Ev.congr (fun k => ?_) go
  unfold body_Numbers_p.f
  rw [h1]
  rfl
def body_Numbers.f (a0 : ByteArray) : Option (List Int × Int) := if a0.size < 4294967281 then some (numsP (splitC 44 a0.data.toList) []) else none
theorem body_Numbers.calls (a0 : ByteArray) (r1 : List Int) (r2 : Int) (w : World) (hT_ : Aside0 (Tabs_ w)) (h : body_Numbers.f a0 = some (r1, r2)) :
    Calls Tryz.prog 79 #[.string a0] w fun e w' => ∃ v0_ : Value, e = .returned (.tuple #[v0_, .int .i64 r2]) ∧ Kd.R (Kd.int .i64) 3 w' w.heap.size (fun _ => True) v0_ r1 ∧ Below w.heap.size w w' := by
  unfold body_Numbers.f at h
  by_cases c : a0.size < 4294967281
  · rw [if_pos c] at h
    obtain ⟨k, hk⟩ := (body_Numbers_ev a0 c).rounds
    exact body_Numbers_p.calls k a0 r1 r2 w hT_ (hk.trans h)
  · rw [if_neg c] at h; cases h
end Go.Proofs.YtgfigkfcmkdjdaaGreatDoor.B
end
