/- The functions that the law reaches, as plain Lean functions, and their contracts: texts merged. -/
import Derived.Test.YtgfigkfcmkdjdaaDoorzPostDecodes3
import Derived.Test.YtgfigkfcmkdjdaaDoorzPostDecodes0
import Derived.Test.YtgfigkfcmkdjdaaDoorzPostDecodes1
import Derived.Test.YtgfigkfcmkdjdaaDoorzPostDecodes2
import Derived.Test.YtgfigkfcmkdjdaaDoorzPostDecodes4
import Derived.Test.YtgfigkfcmkdjdaaDoorzPostDecodes5
import Derived.Test.YtgfigkfcmkdjdaaDoorzPostDecodes7
section
namespace Go.Proofs.YtgfigkfcmkdjdaaDoor.B
open Go.RowKit Go.Proofs.YtgfigkfcmkdjdaaDoorW.PrintWords Go.Proofs.YtgfigkfcmkdjdaaDoorW.PrintLast Go.Proofs.YtgfigkfcmkdjdaaDoorW.PrintMore
attribute [local go_sem] max2_int min2_int max_two min_two max_three min_three max_four min_four   -- for this text's walks alone
set_option linter.unusedVariables false
set_option linter.unusedSimpArgs false
def takeName (s : ByteArray) : ByteArray × Int := if nameL s.data.toList 0 = true then (s, 0) else (⟨#[]⟩, 43)
theorem name_closure (s : ByteArray) (W : World) (hs : s.size ≤ 140737488351232) :
    Calls Tryd.prog 104 (#[.string s] ++ #[]) W fun e w' => e = .returned (.tuple #[.string (takeName s).1, .int .i64 (takeName s).2]) ∧ Below W.heap.size W w' := by
  have HN := Aside0.mk (roster_Valid_walk s W (by omega))
  unfold takeName
  generalize nameL s.data.toList 0 = b at *
  cases b with
  | true =>
    go_enter Tryd.func104, Tryd.ntmps104
    go_wp2_with (go_at_call 54; refine HN.out.mono ?_; rintro en w1 ⟨rfl, hb⟩)
    go_ret2
    exact ⟨rfl, hb⟩
  | false =>
    go_enter Tryd.func104, Tryd.ntmps104
    go_wp2_with (go_at_call 54; refine HN.out.mono ?_; rintro en w1 ⟨rfl, hb⟩)
    go_ret2
    exact ⟨rfl, hb⟩
set_option maxRecDepth 100000 in
set_option maxHeartbeats 4000000 in
theorem ask_string (g : Nat) (p : PlS) (F : FormS) (k : Nat) (w : World) (h : FormIs g p F k w) (hk : k < 9223372036854775807) (hv : ∀ x s, F.vals x = some s → s.size ≤ 140737488351232) (t : Int) (ht : i64ok t) :
    Calls Tryd.prog 103 #[.pointer (some ⟨g, 0, none⟩), .int .i64 t, .func (.func 104) #[] #[]] w fun e w' =>
      e = .returned (.string (askL takeName ⟨#[]⟩ F t).1) ∧ FormIs g p (askL takeName ⟨#[]⟩ F t).2 (k + 1) w' ∧ Turned (FormB g p) w w' := by
  have hc1 := h.c1
  have hc2 := h.c2
  have hc4 := h.c4
  have HF := Aside0.mk h
  have HIs := Aside0.mk (form_is g p F k w h)
  by_cases he : F.e = 0
  · have t1 : (F.e != 0) = false := by rw [he]; rfl
    obtain ⟨w1, hrun, hAs, hgr⟩ := h.asked.put t ht hk
    have HF1 : Aside0 (FormIs g p (F.mark t) (k + 1) w1) := ⟨h.ask hAs hgr⟩
    have HT : Aside0 (Turned (FormB g p) w w1) := ⟨Turned.of_grown hgr (.inr rfl)⟩
    have HH := Aside0.mk (form_has g p _ _ w1 HF1.out t ht)
    have hc11 := HF1.out.c1
    have hlk := HF1.out.vals.look t ht
    clear hgr hAs
    have hc31 := HF1.out.c3
    have hc41 := HF1.out.c4
    have hl31 := HF1.out.l3
    have hl41 := HF1.out.l4
    rw [show (F.mark t).vals t = F.vals t from rfl] at HH hlk
    cases hvt : F.vals t with
    | none =>
      have HA := Aside0.mk (askL_none takeName ⟨#[]⟩ F t he hvt)
      rw [hvt] at HH hlk
      have HE := Aside0.mk (HF1.out.fail t 110)
      have HT2 : Aside0 (Turned (FormB g p) w ((w1.setCell ⟨g, 3, none⟩ (.int .i64 t)).setCell ⟨g, 4, none⟩ (.int .i64 110))) := ⟨(HT.out.setCell (p := ⟨g, 3, none⟩) (.inl rfl) _).setCell (p := ⟨g, 4, none⟩) (.inl rfl) _⟩
      simp only [Option.isSome_none] at HH
      clear hlk
      go_enter Tryd.func103, Tryd.ntmps103
      go_wp2_with (first | (go_at_call 102; refine HIs.out.mono ?_; rintro e w' ⟨rfl, hh⟩; obtain rfl : w = w' := hh.symm) | (go_at_call 101; refine HH.out.mono ?_; rintro e w' ⟨rfl, hh⟩; obtain rfl : w1 = w' := hh.symm))
      go_ret
      rw [HA.out]
      exact ⟨rfl, HE.out, HT2.out⟩
    | some s =>
      have HA := Aside0.mk (askL_some takeName ⟨#[]⟩ F t he hvt)
      rw [hvt] at HH hlk
      simp only [Option.isSome_some, Option.getD_some] at HH hlk
      have HC := Aside0.mk (name_closure s w1 (hv t s hvt))
      try simp only at HA
      generalize hr : takeName s = r at *
      obtain ⟨n, e⟩ := r
      try simp only at HA HC
      clear hr
      have HR : Aside0 (∀ w2, Below w1.heap.size w1 w2 → FormIs g p (F.mark t) (k + 1) w2 ∧ Turned (FormB g p) w w2) := ⟨fun w2 hb => ⟨HF1.out.below hb, HT.out.trans (Turned.of_below hb)⟩⟩
      have HE : Aside0 (∀ w2, FormIs g p (F.mark t) (k + 1) w2 → Turned (FormB g p) w w2 → FormIs g p ((F.mark t).fail t e) (k + 1) ((w2.setCell ⟨g, 3, none⟩ (.int .i64 t)).setCell ⟨g, 4, none⟩ (.int .i64 e)) ∧ Turned (FormB g p) w ((w2.setCell ⟨g, 3, none⟩ (.int .i64 t)).setCell ⟨g, 4, none⟩ (.int .i64 e))) := ⟨fun w2 h2 ht2 => ⟨h2.fail t e, (ht2.setCell (p := ⟨g, 3, none⟩) (.inl rfl) _).setCell (p := ⟨g, 4, none⟩) (.inl rfl) _⟩⟩
      by_cases ce : e = 0
      · have HA2 : Aside0 (askL takeName ⟨#[]⟩ F t = (n, F.mark t)) := ⟨HA.out.trans (if_pos ce)⟩
        have t2 : (e == 0) = true := by rw [ce]; rfl
        clear HA
        go_enter Tryd.func103, Tryd.ntmps103
        go_wp2_with (first | (go_at_call 102; refine HIs.out.mono ?_; rintro e w' ⟨rfl, hh⟩; obtain rfl : w = w' := hh.symm) | (go_at_call 101; refine HH.out.mono ?_; rintro e w' ⟨rfl, hh⟩; obtain rfl : w1 = w' := hh.symm) | (go_at_call 104; refine HC.out.mono ?_; rintro en w2 ⟨rfl, hb⟩; have HR2 := Aside0.mk (HR.out w2 hb); have hc32 := HR2.out.1.c3; have hc42 := HR2.out.1.c4; have hl32 := HR2.out.1.l3; have hl42 := HR2.out.1.l4; clear hb))
        go_ret
        rw [HA2.out]
        exact ⟨rfl, HR2.out.1, HR2.out.2⟩
      · have HA2 : Aside0 (askL takeName ⟨#[]⟩ F t = (⟨#[]⟩, (F.mark t).fail t e)) := ⟨HA.out.trans (if_neg ce)⟩
        have t2 : (e == 0) = false := by rw [beq_eq_false_iff_ne]; exact ce
        clear HA
        go_enter Tryd.func103, Tryd.ntmps103
        go_wp2_with (first | (go_at_call 102; refine HIs.out.mono ?_; rintro e w' ⟨rfl, hh⟩; obtain rfl : w = w' := hh.symm) | (go_at_call 101; refine HH.out.mono ?_; rintro e w' ⟨rfl, hh⟩; obtain rfl : w1 = w' := hh.symm) | (go_at_call 104; refine HC.out.mono ?_; rintro en w2 ⟨rfl, hb⟩; have HR2 := Aside0.mk (HR.out w2 hb); have hc32 := HR2.out.1.c3; have hc42 := HR2.out.1.c4; have hl32 := HR2.out.1.l3; have hl42 := HR2.out.1.l4; clear hb))
        go_ret
        rw [HA2.out]
        exact ⟨rfl, (HE.out w2 HR2.out.1 HR2.out.2).1, (HE.out w2 HR2.out.1 HR2.out.2).2⟩
  · have HA : Aside0 (askL takeName ⟨#[]⟩ F t = (⟨#[]⟩, F)) := ⟨askL_off _ _ _ _ he⟩
    have t1 : (F.e != 0) = true := by rw [bne_iff_ne]; exact he
    go_enter Tryd.func103, Tryd.ntmps103
    go_wp2_with (go_at_call 102; refine HIs.out.mono ?_; rintro e w' ⟨rfl, hh⟩; obtain rfl : w = w' := hh.symm)
    go_ret
    rw [HA.out]
    exact ⟨rfl, HF.out.mono (by omega), Turned.refl _ _⟩
set_option maxRecDepth 100000 in
set_option maxHeartbeats 4000000 in
theorem form_name (g : Nat) (p : PlS) (F : FormS) (k : Nat) (w : World) (h : FormIs g p F k w) (hk : k < 9223372036854775807) (hv : ∀ x s, F.vals x = some s → s.size ≤ 140737488351232) (t : Int) (ht : i64ok t) :
    Calls Tryd.prog 60 #[.pointer (some ⟨g, 0, none⟩), .int .i64 t] w fun e w' =>
      e = .returned (.string (askL takeName ⟨#[]⟩ F t).1) ∧ FormIs g p (askL takeName ⟨#[]⟩ F t).2 (k + 1) w' ∧ Turned (FormB g p) w w' := by
  have HAk := Aside0.mk (ask_string g p F k w h hk hv t ht)
  go_enter Tryd.func60, Tryd.ntmps60
  go_wp2_with (go_at_call 103; refine HAk.out.mono ?_; rintro e w' ⟨rfl, h1, h2⟩)
  go_ret
  exact ⟨rfl, h1, h2⟩
end Go.Proofs.YtgfigkfcmkdjdaaDoor.B
end
section
namespace Go.Proofs.YtgfigkfcmkdjdaaDoor.B
open Go.RowKit Go.Proofs.YtgfigkfcmkdjdaaDoorW.PrintWords Go.Proofs.YtgfigkfcmkdjdaaDoorW.PrintLast Go.Proofs.YtgfigkfcmkdjdaaDoorW.PrintMore
attribute [local go_sem] max2_int min2_int max_two min_two max_three min_three max_four min_four   -- for this text's walks alone
set_option linter.unusedVariables false
set_option linter.unusedSimpArgs false
theorem nameL_runes (m : Nat) : ∀ (l : List UInt8) (n : Nat), l.length ≤ m → n ≤ 20 → nameL l n = (decide (0 < n + (runesL l).length ∧ n + (runesL l).length ≤ 20) && (runesL l).all mayN) := by
  induction m with
  | zero =>
    intro l n h hn
    rw [List.eq_nil_of_length_eq_zero (show l.length = 0 by omega), runesL_nil, nameL_nil]
    simp; omega
  | succ m ih =>
    intro l n h hn
    by_cases hl : l = []
    · rw [hl, runesL_nil, nameL_nil]; simp; omega
    · have hp := List.length_pos_iff.2 hl
      have hw := dec_width l
      rw [runesL_cons l hl, List.length_cons, List.all_cons]
      by_cases c20 : 20 ≤ n
      · rw [nameL_full l hl n c20, decide_eq_false (by omega)]; rfl
      · cases hm : mayN (dec l).1 with
        | false => rw [nameL_bad l hl n hm]; simp
        | true =>
          rw [nameL_go l hl n (by omega) hm, ih _ (n + 1) (by rw [List.length_drop]; omega) (by omega), Bool.true_and]
          congr 1
          rw [decide_eq_decide]; omega
theorem nameL_all (s : ByteArray) : nameL s.data.toList 0 = (decide (0 < (runesL s.data.toList).length ∧ (runesL s.data.toList).length ≤ 20) && (runesL s.data.toList).all mayN) := by
  have := nameL_runes _ s.data.toList 0 (Nat.le_refl _) (by omega)
  simpa using this
theorem runesL_small (n : Nat) : ∀ l : List UInt8, l.length ≤ n → ∀ r ∈ runesL l, r ≤ 2147483647 := by
  induction n with
  | zero => intro l h r hr; rw [List.eq_nil_of_length_eq_zero (show l.length = 0 by omega), runesL_nil] at hr; simp at hr
  | succ n ih =>
    intro l h r hr
    by_cases hl : l = []
    · rw [hl, runesL_nil] at hr; simp at hr
    · have hp := List.length_pos_iff.2 hl
      have hw := dec_width l
      rw [runesL_cons l hl] at hr
      rcases List.mem_cons.1 hr with rfl | hr
      · have := dec_rune l; omega
      · exact ih _ (by rw [List.length_drop]; omega) r hr
set_option maxRecDepth 100000 in
set_option maxHeartbeats 2000000 in
theorem ref_Valid_walk (s : ByteArray) (w : World) (hs : s.size ≤ 70368744177664) :
    Calls Tryd.prog 57 #[.string s] w (NameIs (nameL s.data.toList 0) w) := by
  rw [nameL_all]
  obtain ⟨cap, C, hcv, hcap, hCs, hC⟩ := runes_conv (P := Tryd.prog) w 9 146 21 s Tryd.underlying9 Tryd.underlying146 Tryd.underlying21 hs
  have hsm := runesL_small _ s.data.toList (Nat.le_refl _)
  generalize runesL s.data.toList = R at *
  have HC := Aside0.mk hC
  have HSm := Aside0.mk hsm
  clear hC hsm
  have HB2 : Aside0 (Below w.heap.size w (w.drew.alloc (.cells C 21))) := ⟨(Below.refl _ _).drew.alloc (Nat.le_refl _) _⟩
  have HCs := Aside0.mk hCs
  clear hCs
  generalize hv : (decide (0 < R.length ∧ R.length ≤ 20) && R.all mayN) = V
  have HV0 := Aside0.mk hv
  clear hv
  by_cases c1 : R.length < 1
  · have HV : Aside0 (false = V) := ⟨by rw [← HV0.out, decide_eq_false (by omega)]; rfl⟩
    have t1 : decide ((R.length : Int) < 1) = true := by rw [decide_eq_true_eq]; omega
    have t2 : decide (R.length < 1) = true := by rw [decide_eq_true_eq]; omega
    clear c1
    go_enter Tryd.func57, Tryd.ntmps57
    go_wp2
    go_ret
    exact NameIs.mk_ HV.out HB2.out
  have t1 : decide ((R.length : Int) < 1) = false := by rw [decide_eq_false_iff_not]; omega
  have t2 : decide (R.length < 1) = false := by rw [decide_eq_false_iff_not]; omega
  by_cases c2 : 20 < R.length
  · have HV : Aside0 (false = V) := ⟨by rw [← HV0.out, decide_eq_false (by omega)]; rfl⟩
    have t3 : decide ((20 : Int) < (R.length : Int)) = true := by rw [decide_eq_true_eq]; omega
    have t4 : decide (20 < R.length) = true := by rw [decide_eq_true_eq]; omega
    clear c1 c2
    go_enter Tryd.func57, Tryd.ntmps57
    go_wp2
    go_ret
    exact NameIs.mk_ HV.out HB2.out
  have t3 : decide ((20 : Int) < (R.length : Int)) = false := by rw [decide_eq_false_iff_not]; omega
  have t4 : decide (20 < R.length) = false := by rw [decide_eq_false_iff_not]; omega
  have HV : Aside0 (R.all mayN = V) := ⟨by rw [← HV0.out, decide_eq_true (by omega)]; rfl⟩
  have hR20 : R.length ≤ 20 := by omega
  clear c1 c2
  go_enter Tryd.func57, Tryd.ntmps57
  go_wp2
  go_loop [4] (fun v4 => ∃ i : Nat, v4 = .int .i64 (i : Int) ∧ i ≤ R.length ∧ Aside0 ((R.drop i).all mayN = R.all mayN)) (fun v4 => R.length - (intOf v4).toNat)
  case atStart => exact ⟨0, rfl, Nat.zero_le _, ⟨rfl⟩⟩
  case round =>
    obtain ⟨i, rfl, hi, HA⟩ := hrel
    by_cases hlt : i < R.length
    · have k1 : decide ((i : Int) < (R.length : Int)) = true := by rw [decide_eq_true_eq]; omega
      have k2 : (0 : Int) ≤ (i : Int) ∧ (i : Int) < (R.length : Int) := by omega
      have hti : ((i : Int)).toNat = i := Int.toNat_natCast i
      have hci := HC.out i hlt
      rw [show R.getD i 0 = R[i] by rw [List.getD_eq_getElem?_getD, List.getElem?_eq_getElem hlt]; rfl] at hci
      have hsmi := HSm.out _ (List.getElem_mem hlt)
      rw [List.drop_eq_getElem_cons hlt, List.all_cons] at HA
      generalize R[i] = r at *
      have fin : mayN r = false → Aside0 (false = R.all mayN) := fun e => ⟨by have := HA.out; rw [e] at this; exact this⟩
      by_cases c33 : r < 33
      · have HF := fin (by unfold mayN; simp; omega)
        have q1 : decide ((r : Int) < 33) = true := by rw [decide_eq_true_eq]; omega
        have q2 : decide (r < 33) = true := by rw [decide_eq_true_eq]; omega
        clear HA c33 fin
        go_wp2
        go_ret
        exact NameIs.mk_ (HF.out.trans HV.out) HB2.out
      have q1 : decide ((r : Int) < 33) = false := by rw [decide_eq_false_iff_not]; omega
      have q2 : decide (r < 33) = false := by rw [decide_eq_false_iff_not]; omega
      by_cases c127 : r = 127
      · have HF := fin (by rw [c127]; decide)
        subst c127
        clear HA fin
        go_wp2
        go_ret
        exact NameIs.mk_ (HF.out.trans HV.out) HB2.out
      by_cases c61 : r = 61
      · have HF := fin (by rw [c61]; decide)
        subst c61
        clear HA fin
        go_wp2
        go_ret
        exact NameIs.mk_ (HF.out.trans HV.out) HB2.out
      by_cases c65 : r = 65533
      · have HF := fin (by rw [c65]; decide)
        subst c65
        clear HA fin
        go_wp2
        go_ret
        exact NameIs.mk_ (HF.out.trans HV.out) HB2.out
      have HN : Aside0 ((R.drop (i + 1)).all mayN = R.all mayN) := ⟨by have := HA.out; rw [(mayN_eq r).2 ⟨by omega, c127, c61, c65⟩, Bool.true_and] at this; exact this⟩
      have q3 : ((r : Int) == 127) = false := by rw [beq_eq_false_iff_ne]; omega
      have q4 : ((r : Int) == 61) = false := by rw [beq_eq_false_iff_ne]; omega
      have q5 : ((r : Int) == 65533) = false := by rw [beq_eq_false_iff_ne]; omega
      clear HA fin c33 c127 c61 c65
      go_wp2
      go_round
      case rel => exact ⟨i + 1, by rw [show ((i + 1 : Nat) : Int) = (i : Int) + 1 by omega], by omega, HN⟩
      case measure => simp [intOf]; omega
    · have k1 : decide ((i : Int) < (R.length : Int)) = false := by rw [decide_eq_false_iff_not]; omega
      have HF : Aside0 (true = R.all mayN) := ⟨by have := HA.out; rw [List.drop_eq_nil_of_le (by omega)] at this; exact this⟩
      clear HA
      go_wp2
      go_ret
      exact NameIs.mk_ (HF.out.trans HV.out) HB2.out
end Go.Proofs.YtgfigkfcmkdjdaaDoor.B
end
section
namespace Go.Proofs.YtgfigkfcmkdjdaaDoor.B
open Go.RowKit Go.Proofs.YtgfigkfcmkdjdaaDoorW.PrintWords Go.Proofs.YtgfigkfcmkdjdaaDoorW.PrintLast Go.Proofs.YtgfigkfcmkdjdaaDoorW.PrintMore
attribute [local go_sem] max2_int min2_int max_two min_two max_three min_three max_four min_four   -- for this text's walks alone
set_option linter.unusedVariables false
set_option linter.unusedSimpArgs false
def spigotref01_at.f (l0 : List Bool) (a1 : Int) : Option (Bool) := if a1 < (l0.length : Int) then (if 0 ≤ a1 then (some (rdOf false l0 a1)) else (none)) else (some false)
set_option maxHeartbeats 8000000 in
set_option maxRecDepth 100000 in
theorem spigotref01_at.calls (A0 : Option Addr) (c0 : Nat) (l0 : List Bool) (a1 : Int) (r : Bool) (w : World) (hr0 : Kd.C Kd.bool w A0 l0.length l0) (hc0 : l0.length ≤ c0) (h : spigotref01_at.f l0 a1 = some r) :
    Calls Tryd.prog 152 #[.slice A0 l0.length c0, .int .i64 a1] w fun e w' => e = .returned (.bool r) ∧ Drawn0 w w' := by
  have HR0 := Aside0.mk hr0
  have HC0 := Aside0.mk hc0
  clear hr0 hc0
  have H : (if a1 < (l0.length : Int) then (if 0 ≤ a1 then (some (rdOf false l0 a1)) else (none)) else (some false)) = some r := h
  clear h
  by_cases c3 : a1 < (l0.length : Int)
  · rw [if_pos c3] at H
    have c3b0 : decide (a1 < (l0.length : Int)) = true := decide_eq_true c3
    clear c3
    by_cases c4 : 0 ≤ a1
    · rw [if_pos c4] at H
      have c4b0 : decide (0 ≤ a1) = true := decide_eq_true c4
      clear c4
      obtain rfl := Option.some.inj H
      have p139 : 0 ≤ (a1 : Int) := of_decide_eq_true (by first | (with_reducible assumption) | assumption)
      have q139 : a1 < (l0.length : Int) := of_decide_eq_true (by first | (with_reducible assumption) | assumption)
      obtain ⟨ad139, e139, hx139_0⟩ := Kd.at_bool HR0.out a1 p139 q139
      cases e139
      replace p139 := eq_true p139
      replace q139 := eq_true q139
      go_enter Tryd.func152, Tryd.ntmps152
      go_wp2
      go_ret
      exact ⟨by first | rfl | (simp; done) | (simp [*]; done), by repeat (first | exact Drawn0.refl _ | apply Drawn0.step)⟩
    · rw [if_neg c4] at H
      exact absurd H (by simp)
  · rw [if_neg c3] at H
    have c3b0 : decide (a1 < (l0.length : Int)) = false := decide_eq_false c3
    clear c3
    obtain rfl := Option.some.inj H
    go_enter Tryd.func152, Tryd.ntmps152
    go_wp2
    go_ret
    exact ⟨by first | rfl | (simp; done) | (simp [*]; done), by repeat (first | exact Drawn0.refl _ | apply Drawn0.step)⟩
def spigotref01_trim.l0 : Nat → List Bool → Int → Option (List Bool)
  | 0, _, _ => none
  | k + 1, x0, x3 => if x3 > 0 then (if 0 ≤ (wrap64 (x3 - 1)) then (if (wrap64 (x3 - 1)) < (x0.length : Int) then (if (rdOf false x0 (wrap64 (x3 - 1)) = true) then (if 0 ≤ x3 then (if x3 ≤ (x0.length : Int) then (some (x0.take (x3 : Int).toNat)) else (none)) else (none)) else (spigotref01_trim.l0 k x0 (wrap64 (x3 - 1)))) else (none)) else (none)) else (if 0 ≤ x3 then (if x3 ≤ (x0.length : Int) then (some (x0.take (x3 : Int).toNat)) else (none)) else (none))
def spigotref01_trim.f (k : Nat) (l0 : List Bool) : Option (List Bool) := spigotref01_trim.l0 k l0 (l0.length : Int)
theorem spigotref01_trim.mono_l : ∀ k, (∀ y0 y1, LeO (spigotref01_trim.l0 k y0 y1) (spigotref01_trim.l0 (k + 1) y0 y1))
  | 0 => fun _ _ r h => by simp [spigotref01_trim.l0] at h
  | k + 1 => by
    have ih0 := spigotref01_trim.mono_l k
    · intro y0 y1
      unfold spigotref01_trim.l0
      repeat' first
      | (with_reducible exact ih0 _ _)
      | (with_reducible exact LeO.refl _)
      | (with_reducible exact LeO.none _)
      | (with_reducible refine LeO.ite ?_ ?_)
      | (with_reducible refine LeO.bind ?_ (fun _ => ?_))
      | exact ih0 _ _
      | exact LeO.none _
      | refine LeO.ite ?_ ?_
      | refine LeO.bind ?_ (fun _ => ?_)
theorem spigotref01_trim.mono : ∀ a0 k, LeO (spigotref01_trim.f k a0) (spigotref01_trim.f (k + 1) a0) := by
  intro a0 k
  have ih0 := spigotref01_trim.mono_l k
  unfold spigotref01_trim.f
  repeat' first
      | (with_reducible exact ih0 _ _)
      | (with_reducible exact LeO.refl _)
      | (with_reducible exact LeO.none _)
      | (with_reducible refine LeO.ite ?_ ?_)
      | (with_reducible refine LeO.bind ?_ (fun _ => ?_))
      | exact ih0 _ _
      | exact LeO.none _
      | refine LeO.ite ?_ ?_
      | refine LeO.bind ?_ (fun _ => ?_)
set_option maxHeartbeats 8000000 in
set_option maxRecDepth 100000 in
theorem spigotref01_trim.calls (k : Nat) (P0_ : Nat → Prop) (u9000_ : Value) (l0 : List Bool) (r : List Bool) (w0 w : World) (hB : Below w0.heap.size w0 w) (ho0 : Kd.R Kd.bool 4 w w0.heap.size P0_ u9000_ l0) (h : spigotref01_trim.f k l0 = some r) :
    Calls Tryd.prog 153 #[u9000_] w fun e w' => ∃ v0_ : Value, e = .returned (v0_) ∧ Kd.R Kd.bool 4 w' w0.heap.size (fun k_ => (P0_ k_ ∨ w.heap.size ≤ k_)) v0_ r ∧ Below w0.heap.size w0 w' ∧ Kept w w' (fun k_ => P0_ k_) := by
  have HO0 := Aside0.mk (show Kd.R Kd.bool 4 w w0.heap.size (fun k_ => (P0_ k_ ∨ w.heap.size ≤ k_)) u9000_ l0 from Kd.R_mono ho0 (fun k_ hk => (.inl hk)))
  have HK := Aside0.mk (Kept.refl w (fun k_ => P0_ k_))
  have HW0 := Aside0.mk hB.size
  have HB := Aside0.mk hB
  clear hB
  have H : (spigotref01_trim.l0 k l0 (l0.length : Int)) = some r := h
  clear h
  have H' := Aside0.mk H
  clear H
  obtain ⟨Ao2, co2, eo2⟩ := Kd.R_slice HO0.out
  subst eo2
  go_enter Tryd.func153, Tryd.ntmps153
  go_wp2
  go_loopg [3] k (fun kq v3 w' => ∃ (x3_1 : Int), v3 = .int .i64 x3_1 ∧ Aside0 (spigotref01_trim.l0 kq l0 x3_1 = some r) ∧ Aside0 (kq ≤ k) ∧ Aside0 (Kd.R Kd.bool 4 w' w0.heap.size (fun k_ => (P0_ k_ ∨ w.heap.size ≤ k_)) (.slice Ao2 l0.length co2) l0) ∧ Aside0 (Kept w w' (fun k_ => P0_ k_)) ∧ Aside0 (Below w0.heap.size w0 w'))
  case atStart => exact ⟨((l0.length : Int)), (by first | rfl | (simp; done) | (simp [*]; done)), H', ⟨Nat.le_refl _⟩, ⟨by (with_reducible repeat (first | apply Kd.R_alloc | apply Kd.R_drewN | apply Kd.R_drew)); exact HO0.out⟩, ⟨by repeat (first | (with_reducible first | exact HK.out | apply Kept.alloc | apply Kept.drewN | apply Kept.drew) | exact HK.out)⟩, ⟨by repeat (first | (with_reducible first | exact HB.out | apply below_alloc | apply pw_below_drewN | apply below_drew1) | exact HB.out)⟩⟩
  case round =>
    clear H'
    try clear c1
    try clear p2
    obtain ⟨x3_1, rfl, HA, HK1, HO_0, HK, HB⟩ := hrel
    cases gk with
    | zero => exact absurd HA.out (by simp [spigotref01_trim.l0])
    | succ k1 =>
      have H := HA.out
      clear HA
      simp only [spigotref01_trim.l0] at H
      by_cases c3 : x3_1 > 0
      · rw [if_pos c3] at H
        have c3b0 : decide (0 < x3_1) = true := decide_eq_true c3
        clear c3
        obtain ⟨ji4, hji4⟩ : ∃ j_ : Int, (wrap64 (x3_1 - 1)) = j_ := ⟨_, rfl⟩
        replace H : (if 0 ≤ (ji4) then (if (ji4) < (l0.length : Int) then (if (rdOf false l0 (ji4) = true) then (if 0 ≤ x3_1 then (if x3_1 ≤ (l0.length : Int) then (some (l0.take (x3_1 : Int).toNat)) else (none)) else (none)) else (spigotref01_trim.l0 k1 l0 ji4)) else (none)) else (none)) = some r := by first | (rw [hji4] at H; exact H) | (simp only [hji4] at H ⊢; exact H)
        have hji4w : (IntKind.i64.wrap (x3_1 - 1)) = ji4 := (i64_w _).trans hji4
        by_cases c5 : 0 ≤ (ji4)
        · rw [if_pos c5] at H
          have c5b0 : decide (0 ≤ (ji4)) = true := decide_eq_true c5
          clear c5
          by_cases c6 : (ji4) < (l0.length : Int)
          · rw [if_pos c6] at H
            have c6b0 : decide ((ji4) < (l0.length : Int)) = true := decide_eq_true c6
            clear c6
            obtain ⟨bq7, hbq7⟩ : ∃ b_ : Bool, b_ = (rdOf false l0 (ji4)) := ⟨_, rfl⟩
            replace H : (if (bq7 = true) then (if 0 ≤ x3_1 then (if x3_1 ≤ (l0.length : Int) then (some (l0.take (x3_1 : Int).toNat)) else (none)) else (none)) else (spigotref01_trim.l0 k1 l0 ji4)) = some r := by rw [← hbq7] at H; exact H
            have Nbq7 := Aside0.mk hbq7
            clear hbq7
            by_cases c8 : (bq7 = true)
            · subst c8
              have H1 : (if 0 ≤ x3_1 then (if x3_1 ≤ (l0.length : Int) then (some (l0.take (x3_1 : Int).toNat)) else (none)) else (none)) = some r := by rw [if_pos rfl] at H; exact H
              clear H
              have H := H1
              clear H1
              by_cases c9 : 0 ≤ x3_1
              · rw [if_pos c9] at H
                have c9b0 := eq_true c9
                have c9b1 : decide (0 ≤ x3_1) = true := decide_eq_true c9
                clear c9
                by_cases c10 : x3_1 ≤ (l0.length : Int)
                · rw [if_pos c10] at H
                  have c10b0 := eq_true c10
                  have c10b1 : decide (x3_1 ≤ (l0.length : Int)) = true := decide_eq_true c10
                  clear c10
                  obtain ⟨y141, hy141⟩ : ∃ y_ : List Bool, y_ = (l0.take (x3_1 : Int).toNat) := ⟨_, rfl⟩
                  replace H : (some y141) = some r := by first | (rw [hy141]; with_reducible exact H) | (have H2_ := (Option.bind_some _ _).symm.trans H; rw [hy141]; with_reducible exact H2_) | (have H2_ := (Option.bind_some _ _).symm.trans H; with_reducible exact H2_) | with_reducible exact H | (rw [hy141]; exact H) | exact H
                  have Ny141 := Aside0.mk hy141
                  clear hy141
                  obtain rfl := Option.some.inj H
                  have p140 : 0 ≤ ((ji4) : Int) := of_decide_eq_true (by first | (with_reducible assumption) | assumption)
                  have q140 : (ji4) < (l0.length : Int) := of_decide_eq_true (by first | (with_reducible assumption) | assumption)
                  obtain ⟨ad140, e140, hx140_0⟩ := Kd.at_bool (Kd.R_reads' HO_0.out).2.2 (ji4) p140 q140
                  (try rw [← Nbq7.out] at hx140_0)
                  cases e140
                  replace p140 := eq_true p140
                  replace q140 := eq_true q140
                  have q11 : (x3_1 : Int) ≤ ((l0.length : Int) : Int) := of_decide_eq_true (by first | (with_reducible assumption) | assumption)
                  obtain ⟨i011, hi011, _, hsz11, _⟩ := info_parts info4
                  have hcut11 := cut_to (P := Tryd.prog) 174 4 .i64 Tryd.underlying174 hi011 (some ad140) l0.length co2 x3_1 (of_decide_eq_true (by first | (with_reducible assumption) | assumption)) q11 (Kd.R_reads' HO_0.out).2.1
                  have hr11 := Kd.R_take (m := (x3_1 : Int).toNat) HO_0.out (by omega)
                  have hy11 : y141.length = (x3_1 : Int).toNat := (by rw [Ny141.out, List.length_take]; omega)
                  rw [← Ny141.out] at hr11
                  rw [← hy11] at hr11 hcut11
                  clear hy11 hi011 hsz11 HO_0
                  have HO143 := Aside0.mk hr11
                  clear hr11
                  replace q11 := eq_true q11
                  go_wp2
                  go_ret
                  exact ⟨_, by first | rfl | (simp [errW_none, errW_some] <;> rfl) | (simp only [← hji4]; first | rfl | (simp [errW_none, errW_some] <;> rfl)) | (simp [*, errW_none, errW_some] <;> rfl), by (with_reducible repeat (first | apply Kd.R_alloc | apply Kd.R_drewN | apply Kd.R_drew)); exact HO143.out, by repeat (first | (with_reducible first | exact HB.out | apply below_alloc | apply pw_below_drewN | apply below_drew1) | exact HB.out), by repeat (first | (with_reducible first | exact HK.out | apply Kept.alloc | apply Kept.drewN | apply Kept.drew) | exact HK.out)⟩
                · rw [if_neg c10] at H
                  exact absurd H (by simp)
              · rw [if_neg c9] at H
                exact absurd H (by simp)
            · replace c8 := Bool.eq_false_iff.mpr c8
              subst c8
              have H1 : (spigotref01_trim.l0 k1 l0 ji4) = some r := by rw [if_neg (show ¬ (false = true) by decide)] at H; exact H
              clear H
              have H := H1
              clear H1
              have H' := Aside0.mk H
              clear H
              have p140 : 0 ≤ ((ji4) : Int) := of_decide_eq_true (by first | (with_reducible assumption) | assumption)
              have q140 : (ji4) < (l0.length : Int) := of_decide_eq_true (by first | (with_reducible assumption) | assumption)
              obtain ⟨ad140, e140, hx140_0⟩ := Kd.at_bool (Kd.R_reads' HO_0.out).2.2 (ji4) p140 q140
              (try rw [← Nbq7.out] at hx140_0)
              cases e140
              replace p140 := eq_true p140
              replace q140 := eq_true q140
              go_wp2
              go_roundg k1
              case measure => have := HK1.out; omega
              case rel => exact ⟨(ji4), (by first | rfl | (simp; done) | (simp only [← hji4] <;> (first | rfl | simp)) | (simp [*]; done)), H', ⟨by have := HK1.out; omega⟩, ⟨by (with_reducible repeat (first | apply Kd.R_alloc | apply Kd.R_drewN | apply Kd.R_drew)); exact HO_0.out⟩, ⟨by repeat (first | (with_reducible first | exact HK.out | apply Kept.alloc | apply Kept.drewN | apply Kept.drew) | exact HK.out)⟩, ⟨by repeat (first | (with_reducible first | exact HB.out | apply below_alloc | apply pw_below_drewN | apply below_drew1) | exact HB.out)⟩⟩
          · rw [if_neg c6] at H
            exact absurd H (by simp)
        · rw [if_neg c5] at H
          exact absurd H (by simp)
      · rw [if_neg c3] at H
        have c3b0 : decide (0 < x3_1) = false := decide_eq_false c3
        clear c3
        by_cases c12 : 0 ≤ x3_1
        · rw [if_pos c12] at H
          have c12b0 := eq_true c12
          have c12b1 : decide (0 ≤ x3_1) = true := decide_eq_true c12
          clear c12
          by_cases c13 : x3_1 ≤ (l0.length : Int)
          · rw [if_pos c13] at H
            have c13b0 := eq_true c13
            have c13b1 : decide (x3_1 ≤ (l0.length : Int)) = true := decide_eq_true c13
            clear c13
            obtain ⟨y144, hy144⟩ : ∃ y_ : List Bool, y_ = (l0.take (x3_1 : Int).toNat) := ⟨_, rfl⟩
            replace H : (some y144) = some r := by first | (rw [hy144]; with_reducible exact H) | (have H2_ := (Option.bind_some _ _).symm.trans H; rw [hy144]; with_reducible exact H2_) | (have H2_ := (Option.bind_some _ _).symm.trans H; with_reducible exact H2_) | with_reducible exact H | (rw [hy144]; exact H) | exact H
            have Ny144 := Aside0.mk hy144
            clear hy144
            obtain rfl := Option.some.inj H
            have q14 : (x3_1 : Int) ≤ ((l0.length : Int) : Int) := of_decide_eq_true (by first | (with_reducible assumption) | assumption)
            obtain ⟨i014, hi014, _, hsz14, _⟩ := info_parts info4
            have hcut14 := cut_to (P := Tryd.prog) 174 4 .i64 Tryd.underlying174 hi014 Ao2 l0.length co2 x3_1 (of_decide_eq_true (by first | (with_reducible assumption) | assumption)) q14 (Kd.R_reads' HO_0.out).2.1
            have hr14 := Kd.R_take (m := (x3_1 : Int).toNat) HO_0.out (by omega)
            have hy14 : y144.length = (x3_1 : Int).toNat := (by rw [Ny144.out, List.length_take]; omega)
            rw [← Ny144.out] at hr14
            rw [← hy14] at hr14 hcut14
            clear hy14 hi014 hsz14 HO_0
            have HO146 := Aside0.mk hr14
            clear hr14
            replace q14 := eq_true q14
            go_wp2
            go_ret
            exact ⟨_, by first | rfl | (simp [errW_none, errW_some] <;> rfl) | (simp [*, errW_none, errW_some] <;> rfl), by (with_reducible repeat (first | apply Kd.R_alloc | apply Kd.R_drewN | apply Kd.R_drew)); exact HO146.out, by repeat (first | (with_reducible first | exact HB.out | apply below_alloc | apply pw_below_drewN | apply below_drew1) | exact HB.out), by repeat (first | (with_reducible first | exact HK.out | apply Kept.alloc | apply Kept.drewN | apply Kept.drew) | exact HK.out)⟩
          · rw [if_neg c13] at H
            exact absurd H (by simp)
        · rw [if_neg c12] at H
          exact absurd H (by simp)
end Go.Proofs.YtgfigkfcmkdjdaaDoor.B
end
