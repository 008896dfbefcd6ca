/- The functions that the law reaches, as plain Lean functions, and their contracts: texts merged. -/
import Derived.Laws.StructEq
import Derived.Test.YtgfigkfcmkdjdaaGreatDoorzAskDecodes2
import Derived.Test.YtgfigkfcmkdjdaaGreatDoorzAskDecodes0
import Derived.Test.YtgfigkfcmkdjdaaGreatDoorzAskDecodes1
import Derived.Test.YtgfigkfcmkdjdaaGreatDoorzAskDecodes3
import Derived.Test.YtgfigkfcmkdjdaaGreatDoorzAskDecodes4
section
namespace Go.Proofs.YtgfigkfcmkdjdaaGreatDoor.B
open Go.RowKit Go.Proofs.YtgfigkfcmkdjdaaGreatDoorW.PrintWords Go.Proofs.YtgfigkfcmkdjdaaGreatDoorW.PrintLast Go.Proofs.YtgfigkfcmkdjdaaGreatDoorW.PrintMore
attribute [local go_sem] max2_int min2_int max_two min_two max_three min_three max_four min_four   -- for this text's walks alone
set_option linter.unusedVariables false
set_option linter.unusedSimpArgs false
def takeInts (s : ByteArray) (most low high : Int) : List Int × Int :=
  if (numsP (splitC 44 s.data.toList) []).2 = 0 ∧ most < ((numsP (splitC 44 s.data.toList) []).1.length : Int) then ([], 3)
  else if (numsP (splitC 44 s.data.toList) []).1.any (fun n => decide (n < low) || decide (high < n)) = true then ([], 2) else numsP (splitC 44 s.data.toList) []
theorem numsP_len : ∀ (ws : List (List UInt8)) (acc : List Int), (numsP ws acc).1.length ≤ acc.length + ws.length
  | [], acc => Nat.le_refl _
  | w :: ws, acc => by
    unfold numsP
    split
    · have h := numsP_len ws (acc ++ [((numP w).1 : Int)])
      rw [List.length_append, List.length_cons, List.length_nil] at h
      rw [List.length_cons]; omega
    · exact Nat.zero_le _
set_option maxRecDepth 100000 in
set_option maxHeartbeats 4000000 in
theorem ints_closure (b0 b1 b2 : Nat) (most low high : Int) (s : ByteArray) (w : World) (hT_ : Aside0 (Tabs_ w)) (hs : s.size ≤ 512) (h0 : w.cell? ⟨b0, 0, none⟩ = some (.int .i64 most)) (h1 : w.cell? ⟨b1, 0, none⟩ = some (.int .i64 low)) (h2 : w.cell? ⟨b2, 0, none⟩ = some (.int .i64 high)) :
    Calls Tryz.prog 78 (#[.string s] ++ #[.pointer (some ⟨b0, 0, none⟩), .pointer (some ⟨b1, 0, none⟩), .pointer (some ⟨b2, 0, none⟩)]) w fun e w' => ∃ v, e = .returned (.tuple #[v, .int .i64 (takeInts s most low high).2]) ∧ Kd.R (Kd.int .i64) 3 w' w.heap.size (fun _ => True) v (takeInts s most low high).1 ∧ Below w.heap.size w w' := by
  have HN : Aside0 (Calls Tryz.prog 79 #[.string s] w fun e w' => ∃ v0_ : Value, e = .returned (.tuple #[v0_, .int .i64 (numsP (splitC 44 s.data.toList) []).2]) ∧ Kd.R (Kd.int .i64) 3 w' w.heap.size (fun _ => True) v0_ (numsP (splitC 44 s.data.toList) []).1 ∧ Below w.heap.size w w') := ⟨body_Numbers.calls s _ _ w hT_ (by unfold body_Numbers.f; rw [if_pos (by omega)])⟩
  have l0 := World.block_lt_of_cell? w _ h0
  have l1 := World.block_lt_of_cell? w _ h1
  have l2 := World.block_lt_of_cell? w _ h2
  have hll : (numsP (splitC 44 s.data.toList) []).1.length ≤ 1000 := by
    have h1 := numsP_len (splitC 44 s.data.toList) []
    have h2 := (splitC_sizes 44 s.data.toList).1
    have h3 : s.data.toList.length = s.size := rfl
    simp only [List.length_nil] at h1
    omega
  unfold takeInts
  generalize numsP (splitC 44 s.data.toList) [] = r at *
  obtain ⟨l, e⟩ := r
  simp only at HN hll ⊢
  obtain ⟨R, hRd⟩ : ∃ R : List Int × Int, R = (if e = 0 ∧ most < (l.length : Int) then ([], 3) else if l.any (fun n => decide (n < low) || decide (high < n)) = true then ([], 2) else (l, e)) := ⟨_, rfl⟩
  rw [← hRd]
  by_cases cA : e = 0 ∧ most < (l.length : Int)
  · have t1 : (e == 0) = true := by rw [cA.1]; rfl
    have t2 : decide (most < (l.length : Int)) = true := decide_eq_true cA.2
    rw [if_pos cA] at hRd
    subst hRd
    clear cA
    go_enter Tryz.func78, Tryz.ntmps78
    go_wp2_with (go_at_call 79; ((with_reducible refine HN.out.mono ?_)); rintro en w1 ⟨v, rfl, hR, hb⟩; obtain ⟨A, c, rfl, hc, hC⟩ := Kd.R_reads hR; have HB := Aside0.mk hb; have h0' := (hb.cell (p := ⟨b0, 0, none⟩) l0).trans h0; have h1' := (hb.cell (p := ⟨b1, 0, none⟩) l1).trans h1; have h2' := (hb.cell (p := ⟨b2, 0, none⟩) l2).trans h2; clear hb hR hc hC)
    go_ret2
    exact ⟨_, rfl, Kd.R_nil _ _ _ _ _, HB.out⟩
  · have HF : Aside0 (R = if l.any (fun n => decide (n < low) || decide (high < n)) = true then ([], 2) else (l, e)) := ⟨by rw [hRd, if_neg cA]⟩
    have ht : ((e == 0) = false) ∨ ((e == 0) = true ∧ decide (most < (l.length : Int)) = false) := by
      by_cases c : e = 0
      · exact .inr ⟨by rw [c]; rfl, decide_eq_false (fun h => cA ⟨c, h⟩)⟩
      · exact .inl (by rw [beq_eq_false_iff_ne]; exact c)
    clear hRd cA
    go_enter Tryz.func78, Tryz.ntmps78
    rcases ht with t1 | ⟨t1, t2⟩
    all_goals
      go_wp2_with (go_at_call 79; ((with_reducible refine HN.out.mono ?_)); rintro en w1 ⟨v, rfl, hR, hb⟩; obtain ⟨A, c, rfl, hc, hC⟩ := Kd.R_reads hR; have HB := Aside0.mk hb; have HC := Aside0.mk hC; have HR := Aside0.mk hR; have h0' := (hb.cell (p := ⟨b0, 0, none⟩) l0).trans h0; have h1' := (hb.cell (p := ⟨b1, 0, none⟩) l1).trans h1; have h2' := (hb.cell (p := ⟨b2, 0, none⟩) l2).trans h2; clear hb hR hc hC)
      go_loopw [26] (fun v26 wr => ∃ i : Nat, v26 = .int .i64 (i : Int) ∧ i ≤ l.length ∧ wr = w1 ∧ Aside0 ((l.drop i).any (fun n => decide (n < low) || decide (high < n)) = l.any (fun n => decide (n < low) || decide (high < n)))) (fun v26 _ => l.length - (intOf v26).toNat)
      case atStart => exact ⟨0, rfl, Nat.zero_le _, rfl, ⟨rfl⟩⟩
      case round =>
        obtain ⟨i, rfl, hi, rfl, HA⟩ := hrel
        by_cases hlt : i < l.length
        · obtain ⟨ad, hA, hx⟩ := Kd.at_int HC.out (i : Int) (by omega) (by omega)
          subst hA
          have k1 : decide ((i : Int) < (l.length : Int)) = true := by rw [decide_eq_true_eq]; omega
          have k2 : (0 : Int) ≤ (i : Int) ∧ (i : Int) < (l.length : Int) := by omega
          have hti : ((i : Int)).toNat = i := Int.toNat_natCast i
          have hd : l.drop i = rd l (i : Int) :: l.drop (i + 1) := by
            rw [List.drop_eq_getElem_cons hlt]; congr 1; simp [rd, hlt]
          rw [hd, List.any_cons] at HA
          rw [hti] at hx
          clear hd
          generalize rd l (i : Int) = x at *
          by_cases c1 : x < low
          · have t3 : decide (x < low) = true := decide_eq_true c1
            have HA2 : Aside0 (R = ([], 2)) := ⟨by rw [HF.out, if_pos (by rw [← HA.out, t3]; rfl)]⟩
            clear HA c1
            go_wp2
            go_ret2
            rw [HA2.out]
            exact ⟨_, rfl, Kd.R_nil _ _ _ _ _, HB.out⟩
          · have t3 : decide (x < low) = false := decide_eq_false c1
            by_cases c2 : high < x
            · have t4 : decide (high < x) = true := decide_eq_true c2
              have HA2 : Aside0 (R = ([], 2)) := ⟨by rw [HF.out, if_pos (by rw [← HA.out, t3, t4]; rfl)]⟩
              clear HA c1 c2
              go_wp2
              go_ret2
              rw [HA2.out]
              exact ⟨_, rfl, Kd.R_nil _ _ _ _ _, HB.out⟩
            · have t4 : decide (high < x) = false := decide_eq_false c2
              have HA2 : Aside0 ((l.drop (i + 1)).any (fun n => decide (n < low) || decide (high < n)) = l.any (fun n => decide (n < low) || decide (high < n))) := ⟨by rw [← HA.out, t3, t4]; rfl⟩
              clear HA c1 c2
              go_wp2
              refine ⟨⟨i + 1, by rw [show ((i + 1 : Nat) : Int) = (i : Int) + 1 by omega], by omega, trivial, HA2⟩, ?_⟩
              show l.length - ((i : Int) + 1).toNat < l.length - ((i : Int)).toNat
              omega
        · have k1 : decide ((i : Int) < (l.length : Int)) = false := by rw [decide_eq_false_iff_not]; omega
          have HA2 : Aside0 (R = (l, e)) := ⟨by rw [HF.out, if_neg (by rw [← HA.out, List.drop_eq_nil_of_le (by omega)]; simp)]⟩
          clear HA
          go_wp2
          go_ret2
          rw [HA2.out]
          exact ⟨_, rfl, HR.out, HB.out⟩
set_option maxRecDepth 100000 in
set_option maxHeartbeats 4000000 in
theorem ask_ints (g : Nat) (p : PlS) (F : FormS) (k : Nat) (w : World) (h : FormIs g p F k w) (hk : k < 9223372036854775807) (hv : ∀ x s, F.vals x = some s → s.size ≤ 512) (hT : ∀ X, Turned (FormB g p) w X → Tabs_ X) (t most low high : Int) (ht : i64ok t) (b0 b1 b2 : Nat)
    (h0 : w.cell? ⟨b0, 0, none⟩ = some (.int .i64 most)) (h1 : w.cell? ⟨b1, 0, none⟩ = some (.int .i64 low)) (h2 : w.cell? ⟨b2, 0, none⟩ = some (.int .i64 high)) (n0 : ¬ FormB g p b0) (n1 : ¬ FormB g p b1) (n2 : ¬ FormB g p b2) :
    Calls Tryz.prog 77 #[.pointer (some ⟨g, 0, none⟩), .int .i64 t, .func (.func 78) #[] #[.pointer (some ⟨b0, 0, none⟩), .pointer (some ⟨b1, 0, none⟩), .pointer (some ⟨b2, 0, none⟩)]] w fun e w' =>
      ∃ v, e = .returned v ∧ Kd.R (Kd.int .i64) 3 w' w.heap.size (fun _ => True) v (askL (fun s => takeInts s most low high) [] F t).1 ∧ FormIs g p (askL (fun s => takeInts s most low high) [] F t).2 (k + 1) w' ∧ Turned (FormB g p) w w' := by
  have hc1 := h.c1
  have hc2 := h.c2
  have hc4 := h.c4
  have HF := Aside0.mk h
  have HIs := Aside0.mk (form_is g p F k w h)
  by_cases he : F.e = 0
  · have t1 : (F.e != 0) = false := by rw [he]; rfl
    obtain ⟨w1, hrun, hAs, hgr⟩ := h.asked.put t ht hk
    have HF1 : Aside0 (FormIs g p (F.mark t) (k + 1) w1) := ⟨h.ask hAs hgr⟩
    have HT : Aside0 (Turned (FormB g p) w w1) := ⟨Turned.of_grown hgr (.inr rfl)⟩
    have HH := Aside0.mk (form_has g p _ _ w1 HF1.out t ht)
    have h0' := HT.out.cell h0 n0
    have h1' := HT.out.cell h1 n1
    have h2' := HT.out.cell h2 n2
    have HTb : Aside0 (Tabs_ w1) := ⟨hT w1 HT.out⟩
    have hc11 := HF1.out.c1
    have hlk := HF1.out.vals.look t ht
    clear hgr hAs h0 h1 h2 hT
    have hc31 := HF1.out.c3
    have hc41 := HF1.out.c4
    have hl31 := HF1.out.l3
    have hl41 := HF1.out.l4
    rw [show (F.mark t).vals t = F.vals t from rfl] at HH hlk
    cases hvt : F.vals t with
    | none =>
      have HA := Aside0.mk (askL_none (fun s => takeInts s most low high) [] F t he hvt)
      rw [hvt] at HH hlk
      have HE := Aside0.mk (HF1.out.fail t 110)
      have HT2 : Aside0 (Turned (FormB g p) w ((w1.setCell ⟨g, 3, none⟩ (.int .i64 t)).setCell ⟨g, 4, none⟩ (.int .i64 110))) := ⟨(HT.out.setCell (p := ⟨g, 3, none⟩) (.inl rfl) _).setCell (p := ⟨g, 4, none⟩) (.inl rfl) _⟩
      simp only [Option.isSome_none] at HH
      clear hlk
      go_enter Tryz.func77, Tryz.ntmps77
      go_wp2_with (first | (go_at_call 57; refine HIs.out.mono ?_; rintro e w' ⟨rfl, hh⟩; obtain rfl : w = w' := hh.symm) | (go_at_call 56; refine HH.out.mono ?_; rintro e w' ⟨rfl, hh⟩; obtain rfl : w1 = w' := hh.symm))
      go_ret
      rw [HA.out]
      exact ⟨_, rfl, Kd.R_nil _ _ _ _ _, HE.out, HT2.out⟩
    | some s =>
      have HA := Aside0.mk (askL_some (fun s => takeInts s most low high) [] F t he hvt)
      rw [hvt] at HH hlk
      simp only [Option.isSome_some, Option.getD_some] at HH hlk
      have HC := Aside0.mk (ints_closure b0 b1 b2 most low high s w1 HTb (hv t s hvt) h0' h1' h2')
      try simp only at HA
      generalize hr : takeInts s most low high = r at *
      obtain ⟨n, e⟩ := r
      try simp only at HA HC
      clear hr h0' h1' h2'
      have HR : Aside0 (∀ w2, Below w1.heap.size w1 w2 → FormIs g p (F.mark t) (k + 1) w2 ∧ Turned (FormB g p) w w2) := ⟨fun w2 hb => ⟨HF1.out.below hb, HT.out.trans (Turned.of_below hb)⟩⟩
      have HE : Aside0 (∀ w2, FormIs g p (F.mark t) (k + 1) w2 → Turned (FormB g p) w w2 → FormIs g p ((F.mark t).fail t e) (k + 1) ((w2.setCell ⟨g, 3, none⟩ (.int .i64 t)).setCell ⟨g, 4, none⟩ (.int .i64 e)) ∧ Turned (FormB g p) w ((w2.setCell ⟨g, 3, none⟩ (.int .i64 t)).setCell ⟨g, 4, none⟩ (.int .i64 e))) := ⟨fun w2 h2 ht2 => ⟨h2.fail t e, (ht2.setCell (p := ⟨g, 3, none⟩) (.inl rfl) _).setCell (p := ⟨g, 4, none⟩) (.inl rfl) _⟩⟩
      by_cases ce : e = 0
      · have HA2 : Aside0 (askL (fun s => takeInts s most low high) [] F t = (n, F.mark t)) := ⟨HA.out.trans (if_pos ce)⟩
        have t2 : (e == 0) = true := by rw [ce]; rfl
        clear HA
        go_enter Tryz.func77, Tryz.ntmps77
        go_wp2_with (first | (go_at_call 57; refine HIs.out.mono ?_; rintro e w' ⟨rfl, hh⟩; obtain rfl : w = w' := hh.symm) | (go_at_call 56; refine HH.out.mono ?_; rintro e w' ⟨rfl, hh⟩; obtain rfl : w1 = w' := hh.symm) | (go_at_call 78; refine HC.out.mono ?_; rintro en w2 ⟨v, rfl, hRv, hb⟩; obtain ⟨A, c, rfl, hc, hC⟩ := Kd.R_reads hRv; have HRv := Aside0.mk (Kd.R_lower hRv HT.out.size); clear hRv hc hC; have HR2 := Aside0.mk (HR.out w2 hb); have hc32 := HR2.out.1.c3; have hc42 := HR2.out.1.c4; have hl32 := HR2.out.1.l3; have hl42 := HR2.out.1.l4; clear hb))
        go_ret
        rw [HA2.out]
        exact ⟨_, rfl, HRv.out, HR2.out.1, HR2.out.2⟩
      · have HA2 : Aside0 (askL (fun s => takeInts s most low high) [] F t = ([], (F.mark t).fail t e)) := ⟨HA.out.trans (if_neg ce)⟩
        have t2 : (e == 0) = false := by rw [beq_eq_false_iff_ne]; exact ce
        clear HA
        go_enter Tryz.func77, Tryz.ntmps77
        go_wp2_with (first | (go_at_call 57; refine HIs.out.mono ?_; rintro e w' ⟨rfl, hh⟩; obtain rfl : w = w' := hh.symm) | (go_at_call 56; refine HH.out.mono ?_; rintro e w' ⟨rfl, hh⟩; obtain rfl : w1 = w' := hh.symm) | (go_at_call 78; refine HC.out.mono ?_; rintro en w2 ⟨v, rfl, hRv, hb⟩; obtain ⟨A, c, rfl, hc, hC⟩ := Kd.R_reads hRv; have HRv := Aside0.mk (Kd.R_lower hRv HT.out.size); clear hRv hc hC; have HR2 := Aside0.mk (HR.out w2 hb); have hc32 := HR2.out.1.c3; have hc42 := HR2.out.1.c4; have hl32 := HR2.out.1.l3; have hl42 := HR2.out.1.l4; clear hb))
        go_ret
        rw [HA2.out]
        exact ⟨_, rfl, Kd.R_nil _ _ _ _ _, (HE.out w2 HR2.out.1 HR2.out.2).1, (HE.out w2 HR2.out.1 HR2.out.2).2⟩
  · have HA : Aside0 (askL (fun s => takeInts s most low high) [] F t = ([], F)) := ⟨askL_off _ _ _ _ he⟩
    have t1 : (F.e != 0) = true := by rw [bne_iff_ne]; exact he
    go_enter Tryz.func77, Tryz.ntmps77
    go_wp2_with (go_at_call 57; refine HIs.out.mono ?_; rintro e w' ⟨rfl, hh⟩; obtain rfl : w = w' := hh.symm)
    go_ret
    rw [HA.out]
    exact ⟨_, rfl, Kd.R_nil _ _ _ _ _, HF.out.mono (by omega), Turned.refl _ _⟩
set_option maxRecDepth 100000 in
set_option maxHeartbeats 4000000 in
theorem form_ints (g : Nat) (p : PlS) (F : FormS) (k : Nat) (w : World) (h : FormIs g p F k w) (hk : k < 9223372036854775807) (hv : ∀ x s, F.vals x = some s → s.size ≤ 512) (hT : ∀ X, Turned (FormB g p) w X → Tabs_ X) (t most low high : Int) (ht : i64ok t) (ha : p.a < w.heap.size) :
    Calls Tryz.prog 60 #[.pointer (some ⟨g, 0, none⟩), .int .i64 t, .int .i64 most, .int .i64 low, .int .i64 high] w fun e w' =>
      ∃ v, e = .returned v ∧ Kd.R (Kd.int .i64) 3 w' w.heap.size (fun _ => True) v (askL (fun s => takeInts s most low high) [] F t).1 ∧ FormIs g p (askL (fun s => takeInts s most low high) [] F t).2 (k + 1) w' ∧ Turned (FormB g p) w w' := by
  have hg := h.lt
  have HB : Aside0 (Below w.heap.size w (((w.alloc (.cells #[.int .i64 most] 3)).alloc (.cells #[.int .i64 low] 3)).alloc (.cells #[.int .i64 high] 3))) := ⟨(((Below.refl _ _).alloc (Nat.le_refl _) _).alloc (by simp) _).alloc (by simp; omega) _⟩
  have HF := Aside0.mk (h.below HB.out)
  have HAk := Aside0.mk (ask_ints g p F k _ HF.out hk hv (fun X hX => hT X ((Turned.of_below HB.out).trans hX)) t most low high ht w.heap.size (w.heap.size + 1) (w.heap.size + 1 + 1) (by simp [go_sem]) (by simp [go_sem]) (by simp [go_sem]) (fun e => by rcases e with e | e <;> omega) (fun e => by rcases e with e | e <;> omega) (fun e => by rcases e with e | e <;> omega))
  have hmf : ∀ (fn : Fn) (first cap : Array Value) (w : World), (Instr.makeFunc fn first cap).run Tryz.prog w = .ok (.func fn first cap) w := fun _ _ _ _ => rfl
  go_enter Tryz.func60, Tryz.ntmps60
  go_wp2_with (go_at_call 77; refine HAk.out.mono ?_; rintro e w' ⟨v, rfl, hRv, h1, h2⟩; obtain ⟨A, c, rfl, hc, hC⟩ := Kd.R_reads hRv; have HRv := Aside0.mk (Kd.R_lower hRv HB.out.size); clear hRv hc hC)
  go_ret
  exact ⟨_, rfl, HRv.out, h1, (Turned.of_below HB.out).trans h2⟩
end Go.Proofs.YtgfigkfcmkdjdaaGreatDoor.B
end
section
namespace Go.Proofs.YtgfigkfcmkdjdaaGreatDoor.B
open Go.RowKit Go.Proofs.YtgfigkfcmkdjdaaGreatDoorW.PrintWords Go.Proofs.YtgfigkfcmkdjdaaGreatDoorW.PrintLast Go.Proofs.YtgfigkfcmkdjdaaGreatDoorW.PrintMore
attribute [local go_sem] max2_int min2_int max_two min_two max_three min_three max_four min_four   -- for this text's walks alone
set_option linter.unusedVariables false
set_option linter.unusedSimpArgs false
def tag_number.f (a0 : ByteArray) : Option (Int × Int × Int) := if a0.size ≤ big then some (((numL a0.data.toList 0 0).1 : Int), ((numL a0.data.toList 0 0).2.1 : Int), ((numL a0.data.toList 0 0).2.2 : Int)) else none
theorem drop_cons (s : ByteArray) (pos : Nat) (h : pos < s.size) : s.data.toList.drop pos = s[pos]'h :: s.data.toList.drop (pos + 1) := by
  rw [List.drop_eq_getElem_cons (by rw [size_list]; exact h)]; rfl
theorem numL_sep (b : UInt8) (t : List UInt8) (i tg : Nat) (h : b.toNat = 61) (hi : 0 < i) : numL (b :: t) i tg = (tg, i + 1, 0) := by unfold numL; rw [if_pos ⟨h, hi⟩]
theorem numL_bad (b : UInt8) (t : List UInt8) (i tg : Nat) (h : ¬ (b.toNat = 61 ∧ 0 < i)) (h2 : ¬ isDig b ∨ (b.toNat = 48 ∧ i = 0)) : numL (b :: t) i tg = (0, 0, 80) := by unfold numL; rw [if_neg h, if_pos h2]
theorem numL_big (b : UInt8) (t : List UInt8) (i tg : Nat) (h : isDig b) (h2 : ¬ (b.toNat = 48 ∧ i = 0)) (h3 : 99999 < 10 * tg + (b.toNat - 48)) : numL (b :: t) i tg = (0, 0, 80) := by
  unfold numL; rw [if_neg (by unfold isDig at h; omega), if_neg (fun g => g.elim (fun g => g h) h2), if_pos h3]
theorem numL_go (b : UInt8) (t : List UInt8) (i tg : Nat) (h : isDig b) (h2 : ¬ (b.toNat = 48 ∧ i = 0)) (h3 : ¬ 99999 < 10 * tg + (b.toNat - 48)) : numL (b :: t) i tg = numL t (i + 1) (10 * tg + (b.toNat - 48)) := by
  conv => lhs; unfold numL
  rw [if_neg (by unfold isDig at h; omega), if_neg (fun g => g.elim (fun g => g h) h2), if_neg h3]
def NumIs (l : List UInt8) (w : World) (e : Ending) (w' : World) : Prop := e = .returned (.tuple #[.int .i64 ((numL l 0 0).1 : Int), .int .i64 ((numL l 0 0).2.1 : Int), .int .i64 ((numL l 0 0).2.2 : Int)]) ∧ Below w.heap.size w w'
theorem NumIs.mk_ {l : List UInt8} {w w' : World} {a b c : Nat} (h : (a, b, c) = numL l 0 0) (hw : Below w.heap.size w w') : NumIs l w (.returned (.tuple #[.int .i64 (a : Int), .int .i64 (b : Int), .int .i64 (c : Int)])) w' := by
  unfold NumIs; rw [← h]; exact ⟨rfl, hw⟩
set_option maxHeartbeats 1000000 in
theorem tag_number_walk (s : ByteArray) (w : World) (hs : s.size ≤ big) :
    Calls Tryz.prog 90 #[.string s] w (NumIs s.data.toList w) := by
  unfold big at hs
  go_enter Tryz.func90, Tryz.ntmps90
  go_wp2
  go_loopw [2] (fun t w' => ∃ pos tg : Nat, w' = w.iter s pos ∧ t = .int .i64 (tg : Int) ∧ pos ≤ s.size ∧ tg ≤ 99999 ∧ Aside0 (numL (s.data.toList.drop pos) pos tg = numL s.data.toList 0 0)) (fun _ w' => s.size - w'.iterPos w.heap.size)
  case atStart => exact ⟨0, 0, rfl, rfl, Nat.zero_le _, by omega, ⟨rfl⟩⟩
  case round =>
    obtain ⟨pos, tg, rfl, rfl, hpos, htg, hA⟩ := hrel
    have hBel : Aside0 (∀ p, Below w.heap.size w (w.iter s p)) := ⟨fun p => (Below.refl _ _).alloc (Nat.le_refl _) _⟩
    by_cases hp : pos < s.size
    · have hcons := drop_cons s pos hp
      by_cases ha : (s[pos]'hp).toNat < 128
      · have hnx : ∀ ty, (Instr.next (.pointer (some ⟨w.heap.size, 0, none⟩)) true ty).run Tryz.prog (w.iter s pos) = _ := fun ty => run_next_ascii w s pos ty hp ha
        rw [hcons] at hA
        clear hcons
        generalize s[pos]'hp = b at *
        have hb48 : isDig b ↔ 48 ≤ b.toNat ∧ b.toNat ≤ 57 := Iff.rfl
        generalize hN : b.toNat = n at *
        by_cases c1 : n = 61 ∧ 0 < pos
        · obtain ⟨rfl, c1⟩ := c1
          have HF := Aside0.mk (hA.out.symm.trans (numL_sep b _ pos tg hN c1))
          clear hA hb48 hN
          go_wp2
          go_ret3
          exact NumIs.mk_ (a := tg) (b := pos + 1) (c := 0) HF.out.symm (hBel.out _)
        · have hbad : ∀ (hb : ¬ isDig b ∨ (b.toNat = 48 ∧ pos = 0)), Aside0 (numL s.data.toList 0 0 = (0, 0, 80)) := fun hb => ⟨hA.out.symm.trans (numL_bad b _ pos tg (by rw [hN]; exact c1) hb)⟩
          by_cases c2 : n < 48
          · have HF := hbad (.inl (by rw [hb48]; omega))
            have t1 : ((n : Int) == 61) = false := by rw [beq_eq_false_iff_ne]; omega
            have t2 : decide ((n : Int) < 48) = true := by rw [decide_eq_true_eq]; omega
            clear hA hb48 hN hbad c1 c2
            go_wp2
            go_ret3
            exact NumIs.mk_ (a := 0) (b := 0) (c := 80) HF.out.symm (hBel.out _)
          by_cases c3 : 57 < n
          · have HF := hbad (.inl (by rw [hb48]; omega))
            have t2 : decide ((n : Int) < 48) = false := by rw [decide_eq_false_iff_not]; omega
            have t3 : decide ((57 : Int) < n) = true := by rw [decide_eq_true_eq]; omega
            by_cases c4 : n = 61
            · obtain rfl : pos = 0 := by omega
              subst c4
              clear hA hb48 hN hbad c1 c2 c3
              go_wp2
              go_ret3
              exact NumIs.mk_ (a := 0) (b := 0) (c := 80) HF.out.symm (hBel.out _)
            · have t1 : ((n : Int) == 61) = false := by rw [beq_eq_false_iff_ne]; omega
              clear hA hb48 hN hbad c1 c2 c3 c4
              go_wp2
              go_ret3
              exact NumIs.mk_ (a := 0) (b := 0) (c := 80) HF.out.symm (hBel.out _)
          have t1 : ((n : Int) == 61) = false := by rw [beq_eq_false_iff_ne]; omega
          have t2 : decide ((n : Int) < 48) = false := by rw [decide_eq_false_iff_not]; omega
          have t3 : decide ((57 : Int) < n) = false := by rw [decide_eq_false_iff_not]; omega
          by_cases c4 : n = 48 ∧ pos = 0
          · have HF := hbad (.inr (by rw [hN]; exact c4))
            obtain ⟨rfl, rfl⟩ := c4
            clear hA hb48 hN hbad c1 c2 c3
            go_wp2
            go_ret3
            exact NumIs.mk_ (a := 0) (b := 0) (c := 80) HF.out.symm (hBel.out _)
          have hgo := numL_go b (s.data.toList.drop (pos + 1)) pos tg (hb48.2 (by omega)) (by rw [hN]; exact c4)
          have hbg := numL_big b (s.data.toList.drop (pos + 1)) pos tg (hb48.2 (by omega)) (by rw [hN]; exact c4)
          rw [hN] at hgo hbg
          have g1 : 48 ≤ n := by omega
          have g2 : n ≤ 57 := by omega
          have hval : (10 * (tg : Int) + ((n : Int) - 48)) = ((10 * tg + (n - 48) : Nat) : Int) := by omega
          have HV := Aside0.mk hval
          clear hval
          have t4 : ((n : Int) == 48 && (pos : Int) == 0) = false := by
            rw [Bool.and_eq_false_iff, beq_eq_false_iff_ne, beq_eq_false_iff_ne]; omega
          by_cases c5 : 99999 < 10 * tg + (n - 48)
          · have HF := Aside0.mk (hA.out.symm.trans (hbg c5))
            have t5 : decide ((99999 : Int) < 10 * (tg : Int) + ((n : Int) - 48)) = true := by rw [decide_eq_true_eq]; omega
            have t6 : (n : Int) = 48 → ¬ (pos : Int) = 0 := by omega
            clear hA hb48 hN hbad c1 c2 c3 c4 hgo hbg c5
            by_cases c6 : n = 48
            · have t7 : ((pos : Int) == 0) = false := by rw [beq_eq_false_iff_ne]; omega
              subst c6
              have t8 : decide ((99999 : Int) < 10 * (tg : Int)) = true := by rw [decide_eq_true_eq] at t5 ⊢; omega
              clear t5 t6
              go_wp2
              go_ret3
              exact NumIs.mk_ (a := 0) (b := 0) (c := 80) HF.out.symm (hBel.out _)
            · have t7 : ((n : Int) == 48) = false := by rw [beq_eq_false_iff_ne]; omega
              clear t6
              go_wp2
              go_ret3
              exact NumIs.mk_ (a := 0) (b := 0) (c := 80) HF.out.symm (hBel.out _)
          · have HA2 := Aside0.mk ((hgo c5).symm.trans hA.out)
            have t5 : decide ((99999 : Int) < 10 * (tg : Int) + ((n : Int) - 48)) = false := by rw [decide_eq_false_iff_not]; omega
            have hb5 : 10 * tg + (n - 48) ≤ 99999 := by omega
            have HB5 := Aside0.mk hb5
            have t6 : (n : Int) = 48 → ¬ (pos : Int) = 0 := by omega
            clear hA hb48 hN hbad c1 c2 c3 c4 hgo hbg c5 hb5
            by_cases c6 : n = 48
            · have t7 : ((pos : Int) == 0) = false := by rw [beq_eq_false_iff_ne]; omega
              subst c6
              have t8 : decide ((99999 : Int) < 10 * (tg : Int)) = false := by rw [decide_eq_false_iff_not] at t5 ⊢; omega
              clear t5 t6
              go_wp2
              go_roundw
              case rel => exact ⟨pos + 1, 10 * tg + (48 - 48), rfl, by have := HV.out; simp only [Value.int.injEq, true_and]; omega, hp, HB5.out, HA2⟩
              case measure => simp; omega
            · have t7 : ((n : Int) == 48) = false := by rw [beq_eq_false_iff_ne]; omega
              clear t6
              go_wp2
              go_roundw
              case rel => exact ⟨pos + 1, 10 * tg + (n - 48), rfl, by have := HV.out; simp only [Value.int.injEq, true_and]; omega, hp, HB5.out, HA2⟩
              case measure => simp; omega
      · have hnx : ∀ ty, (Instr.next (.pointer (some ⟨w.heap.size, 0, none⟩)) true ty).run Tryz.prog (w.iter s pos) = _ := fun ty => run_next_any w s pos ty hp
        have hh := (decode_high s pos hp (by omega)).1
        have hle := decode_le s pos
        rw [hcons] at hA
        have HF := Aside0.mk (hA.out.symm.trans (numL_bad (s[pos]'hp) _ pos tg (by omega) (.inl (by unfold isDig; omega))))
        clear hA hcons ha
        generalize (Utf8.decode s pos).1 = r at *
        generalize (Utf8.decode s pos).2 = wd at *
        have t1 : ((r : Int) == 61) = false := by rw [beq_eq_false_iff_ne]; omega
        have t2 : decide ((r : Int) < 48) = false := by rw [decide_eq_false_iff_not]; omega
        have t3 : decide ((57 : Int) < r) = true := by rw [decide_eq_true_eq]; omega
        go_wp2
        go_ret3
        exact NumIs.mk_ (a := 0) (b := 0) (c := 80) HF.out.symm (hBel.out _)
    · have hnx : ∀ ty, (Instr.next (.pointer (some ⟨w.heap.size, 0, none⟩)) true ty).run Tryz.prog (w.iter s pos) = _ := fun ty => run_next_end w s pos ty hp
      have HF := Aside0.mk ((show numL (s.data.toList.drop pos) pos tg = (0, 0, 82) by rw [List.drop_eq_nil_of_le (by rw [size_list]; omega)]; rfl).symm.trans hA.out)
      clear hA
      go_wp2
      go_ret3
      exact NumIs.mk_ (a := 0) (b := 0) (c := 82) HF.out (hBel.out _)
theorem tag_number.calls (a0 : ByteArray) (r1 r2 r3 : Int) (w : World) (h : tag_number.f a0 = some (r1, r2, r3)) :
    Calls Tryz.prog 90 #[.string a0] w fun e w' => e = .returned (.tuple #[.int .i64 r1, .int .i64 r2, .int .i64 r3]) ∧ Below w.heap.size w w' := by
  unfold tag_number.f at h
  by_cases c : a0.size ≤ big
  · rw [if_pos c] at h
    simp only [Option.some.injEq, Prod.mk.injEq] at h
    obtain ⟨rfl, rfl, rfl⟩ := h
    exact tag_number_walk a0 w c
  · rw [if_neg c] at h; cases h
end Go.Proofs.YtgfigkfcmkdjdaaGreatDoor.B
end
section
namespace Go.Proofs.YtgfigkfcmkdjdaaGreatDoor.B
open Go.RowKit Go.Proofs.YtgfigkfcmkdjdaaGreatDoorW.PrintWords Go.Proofs.YtgfigkfcmkdjdaaGreatDoorW.PrintLast Go.Proofs.YtgfigkfcmkdjdaaGreatDoorW.PrintMore
attribute [local go_sem] max2_int min2_int max_two min_two max_three min_three max_four min_four   -- for this text's walks alone
set_option linter.unusedVariables false
set_option linter.unusedSimpArgs false
theorem tag_may_same (r : Nat) (hr : r ≤ 2147483647) (w : World) :
    Calls Tryz.prog 85 #[.int .i32 (r : Int)] w fun e w' => e = .returned (.bool (mayB r)) ∧ w = w' := by
  by_cases c1 : r < 32
  · have hv : mayB r = false := by unfold mayB; simp; omega
    have t1 : decide ((32 : Int) ≤ (r : Int)) = false := by rw [decide_eq_false_iff_not]; omega
    rw [hv]
    clear hv c1
    go_enter Tryz.func85, Tryz.ntmps85
    go_wp2
    go_ret
    exact ⟨rfl, rfl⟩
  have t1 : decide ((32 : Int) ≤ (r : Int)) = true := by rw [decide_eq_true_eq]; omega
  by_cases c2 : r = 127
  · subst c2
    go_enter Tryz.func85, Tryz.ntmps85
    go_wp2
    go_ret
    exact ⟨rfl, rfl⟩
  by_cases c3 : r = 65533
  · subst c3
    go_enter Tryz.func85, Tryz.ntmps85
    go_wp2
    go_ret
    exact ⟨rfl, rfl⟩
  have hv : mayB r = true := by rw [mayB_eq]; omega
  have t2 : ((r : Int) == 127) = false := by rw [beq_eq_false_iff_ne]; omega
  have t3 : ((r : Int) != 127) = true := by rw [bne_iff_ne]; omega
  have t4 : ((r : Int) == 65533) = false := by rw [beq_eq_false_iff_ne]; omega
  have t5 : ((r : Int) != 65533) = true := by rw [bne_iff_ne]; omega
  rw [hv]
  clear hv c1 c2 c3
  go_enter Tryz.func85, Tryz.ntmps85
  go_wp2
  go_ret
  exact ⟨rfl, rfl⟩
end Go.Proofs.YtgfigkfcmkdjdaaGreatDoor.B
end
section
namespace Go.Proofs.YtgfigkfcmkdjdaaGreatDoor.B
open Go.RowKit Go.Proofs.YtgfigkfcmkdjdaaGreatDoorW.PrintWords Go.Proofs.YtgfigkfcmkdjdaaGreatDoorW.PrintLast Go.Proofs.YtgfigkfcmkdjdaaGreatDoorW.PrintMore
attribute [local go_sem] max2_int min2_int max_two min_two max_three min_three max_four min_four   -- for this text's walks alone
set_option linter.unusedVariables false
set_option linter.unusedSimpArgs false
def tag_text.f (a0 : ByteArray) : Option (ByteArray × Int) := if a0.size ≤ big then some (if (textL a0.data.toList 0).2 = 0 then a0.extract 0 (textL a0.data.toList 0).1 else ⟨#[]⟩, ((textL a0.data.toList 0).2 : Int)) else none
def TextIs (s : ByteArray) (w : World) (e : Ending) (w' : World) : Prop := e = .returned (.tuple #[.string (if (textL s.data.toList 0).2 = 0 then s.extract 0 (textL s.data.toList 0).1 else ⟨#[]⟩), .int .i64 ((textL s.data.toList 0).2 : Int)]) ∧ Below w.heap.size w w'
theorem TextIs.ok {s : ByteArray} {w w' : World} {p : Nat} {t : ByteArray} (h : (p, 0) = textL s.data.toList 0) (ht : t = s.extract 0 p) (hw : Below w.heap.size w w') : TextIs s w (.returned (.tuple #[.string t, .int .i64 0])) w' := by
  subst ht; unfold TextIs; rw [← h]; exact ⟨rfl, hw⟩
theorem TextIs.no {s : ByteArray} {w w' : World} {p e : Nat} (h : (p, e) = textL s.data.toList 0) (he : e ≠ 0) (hw : Below w.heap.size w w') : TextIs s w (.returned (.tuple #[.string ⟨#[]⟩, .int .i64 (e : Int)])) w' := by
  unfold TextIs; rw [← h]; simp only; rw [if_neg he]; exact ⟨rfl, hw⟩
set_option maxHeartbeats 1000000 in
theorem tag_text_walk (s : ByteArray) (w : World) (hs : s.size ≤ big) :
    Calls Tryz.prog 91 #[.string s] w (TextIs s w) := by
  unfold big at hs
  have HB : Aside0 (∀ p, Below w.heap.size w (w.iter s p)) := ⟨fun p => (Below.refl _ _).alloc (Nat.le_refl _) _⟩
  go_enter Tryz.func91, Tryz.ntmps91
  go_wp2
  go_step3
  go_wp2
  go_step3
  go_wp2
  go_loopw [4, 5] (fun e4 v5 w' => ∃ pos at_ : Nat, w' = w.iter s pos ∧ e4 = .int .i64 82 ∧ v5 = .int .i64 (at_ : Int) ∧ pos ≤ s.size ∧ Aside0 (textL (s.data.toList.drop pos) pos = textL s.data.toList 0)) (fun _ _ w' => s.size - w'.iterPos w.heap.size)
  case atStart => exact ⟨0, 0, rfl, rfl, rfl, Nat.zero_le _, ⟨rfl⟩⟩
  case round =>
    obtain ⟨pos, at_, rfl, rfl, rfl, hpos, hA⟩ := hrel
    by_cases hp : pos < s.size
    · have hnx : ∀ ty, (Instr.next (.pointer (some ⟨w.heap.size, 0, none⟩)) true ty).run Tryz.prog (w.iter s pos) = _ := fun ty => run_next_any w s pos ty hp
      have hle := decode_le s pos
      have hne := drop_ne_nil s pos hp
      have hst := hA.out
      have hwd := dec_width (s.data.toList.drop pos)
      have hwl := dec_width_le _ hne
      have hw4 := dec_width4 (s.data.toList.drop pos)
      have hen := dec_encode_size (s.data.toList.drop pos) hne
      rw [textL_cons _ hne, dec_drop, List.drop_drop] at hst
      rw [dec_drop] at hwd hwl hw4 hen
      rw [List.length_drop, size_list] at hwl
      clear hA
      generalize (Utf8.decode s pos).1 = r at *
      generalize (Utf8.decode s pos).2 = wd at *
      by_cases c1 : r = 1 ∧ 0 < pos
      · rw [if_pos c1] at hst
        have HS := Aside0.mk hst
        obtain ⟨rfl, c1⟩ := c1
        clear hst hen hle
        go_wp2
        go_ret2
        exact TextIs.ok HS.out (by simp) (HB.out _)
      · rw [if_neg c1] at hst
        have HM : Aside0 (∀ w, Calls Tryz.prog 85 #[.int .i32 (r : Int)] w fun e w' => e = .returned (.bool (mayB r)) ∧ w = w') := ⟨fun w => tag_may_same r hle w⟩
        cases hm : mayB r with
        | false =>
          rw [hm] at hst HM
          rw [if_neg (by simp)] at hst
          have HS := Aside0.mk hst
          clear hst hm hen hle
          by_cases c2 : r = 1
          · obtain rfl : pos = 0 := by omega
            subst c2
            clear c1
            go_wp2_with (go_at_call 85; refine (HM.out _).mono ?_; rintro e w1 ⟨rfl, rfl⟩)
            go_ret2
            exact TextIs.no HS.out (by decide) (HB.out _)
          · have t1 : ((r : Int) == 1) = false := by rw [beq_eq_false_iff_ne]; omega
            clear c1 c2
            go_wp2_with (go_at_call 85; refine (HM.out _).mono ?_; rintro e w1 ⟨rfl, rfl⟩)
            go_ret2
            exact TextIs.no HS.out (by decide) (HB.out _)
        | true =>
          rw [hm] at hst HM
          have hm2 := (mayB_eq r).1 hm
          have hsz := hen (by omega)
          have t1 : ((r : Int) == 1) = false := by rw [beq_eq_false_iff_ne]; omega
          clear hm hen c1 hle
          by_cases c3 : pos + wd ≤ 512
          · rw [if_pos ⟨rfl, c3⟩] at hst
            have HS := Aside0.mk hst
            have t2 : decide ((512 : Int) < (pos : Int) + (wd : Int)) = false := by rw [decide_eq_false_iff_not]; omega
            clear hst
            go_wp2_with (go_at_call 85; refine (HM.out _).mono ?_; rintro e w1 ⟨rfl, rfl⟩)
            go_roundw
            case rel => exact ⟨pos + wd, pos, rfl, rfl, rfl, by omega, HS⟩
            case measure => simp; omega
          · rw [if_neg (by simp [c3])] at hst
            have HS := Aside0.mk hst
            have t2 : decide ((512 : Int) < (pos : Int) + (wd : Int)) = true := by rw [decide_eq_true_eq]; omega
            clear hst
            go_wp2_with (go_at_call 85; refine (HM.out _).mono ?_; rintro e w1 ⟨rfl, rfl⟩)
            go_ret2
            exact TextIs.no HS.out (by decide) (HB.out _)
    · have hnx : ∀ ty, (Instr.next (.pointer (some ⟨w.heap.size, 0, none⟩)) true ty).run Tryz.prog (w.iter s pos) = _ := fun ty => run_next_end w s pos ty hp
      have HS := Aside0.mk (show (0, 82) = textL s.data.toList 0 by rw [← hA.out, drop_nil_of s pos hp, textL_nil])
      clear hA
      go_wp2
      go_ret2
      exact TextIs.no HS.out (by decide) (HB.out _)
theorem tag_text.calls (a0 : ByteArray) (r1 : ByteArray) (r2 : Int) (w : World) (h : tag_text.f a0 = some (r1, r2)) :
    Calls Tryz.prog 91 #[.string a0] w fun e w' => e = .returned (.tuple #[.string r1, .int .i64 r2]) ∧ Below w.heap.size w w' := by
  unfold tag_text.f at h
  by_cases c : a0.size ≤ big
  · rw [if_pos c] at h
    simp only [Option.some.injEq, Prod.mk.injEq] at h
    obtain ⟨rfl, rfl⟩ := h
    exact tag_text_walk a0 w c
  · rw [if_neg c] at h; cases h
end Go.Proofs.YtgfigkfcmkdjdaaGreatDoor.B
end
section
namespace Go.Proofs.YtgfigkfcmkdjdaaGreatDoor.B
open Go.RowKit Go.Proofs.YtgfigkfcmkdjdaaGreatDoorW.PrintWords Go.Proofs.YtgfigkfcmkdjdaaGreatDoorW.PrintLast Go.Proofs.YtgfigkfcmkdjdaaGreatDoorW.PrintMore
attribute [local go_sem] max2_int min2_int max_two min_two max_three min_three max_four min_four   -- for this text's walks alone
set_option linter.unusedVariables false
set_option linter.unusedSimpArgs false
def tag_Next_p.f (a0 : ByteArray) : Option (Int × ByteArray × Int × Int) := (tag_number.f a0).bind fun bt137 => (if bt137.2.2 = 0 then (if 0 ≤ bt137.2.1 then (if bt137.2.1 ≤ (a0.size : Int) then ((tag_text.f (a0.extract (bt137.2.1 : Int).toNat a0.size)).bind fun bt140 => (if bt140.2 = 0 then (some (bt137.1, bt140.1, wrap64 ((wrap64 (bt137.2.1 + (bt140.1.size : Int))) + 1), 0)) else (some (0, (⟨#[]⟩ : ByteArray), 0, bt140.2)))) else (none)) else (none)) else (some (0, (⟨#[]⟩ : ByteArray), 0, bt137.2.2)))
set_option maxHeartbeats 8000000 in
set_option maxRecDepth 100000 in
theorem tag_Next_p.calls (a0 : ByteArray) (r1 : Int) (r2 : ByteArray) (r3 : Int) (r4 : Int) (w : World) (h : tag_Next_p.f a0 = some (r1, r2, r3, r4)) :
    Calls Tryz.prog 71 #[.string a0] w fun e w' => e = .returned (.tuple #[.agg #[.int .i64 r1, .string r2], .int .i64 r3, .int .i64 r4]) ∧ Below w.heap.size w w' := by
  have hu74 := Tryz.underlying74
  have HB := Aside0.mk (Below.refl w.heap.size w)
  have H : ((tag_number.f a0).bind fun bt137 => (if bt137.2.2 = 0 then (if 0 ≤ bt137.2.1 then (if bt137.2.1 ≤ (a0.size : Int) then ((tag_text.f (a0.extract (bt137.2.1 : Int).toNat a0.size)).bind fun bt140 => (if bt140.2 = 0 then (some (bt137.1, bt140.1, wrap64 ((wrap64 (bt137.2.1 + (bt140.1.size : Int))) + 1), 0)) else (some (0, (⟨#[]⟩ : ByteArray), 0, bt140.2)))) else (none)) else (none)) else (some (0, (⟨#[]⟩ : ByteArray), 0, bt137.2.2)))) = some (r1, r2, r3, r4) := h
  clear h
  replace H := Option.bind_eq_some_iff.mp H
  obtain ⟨⟨t137, t138, t139⟩, A20, H⟩ := H
  replace H : (if t139 = 0 then (if 0 ≤ t138 then (if t138 ≤ (a0.size : Int) then ((tag_text.f (a0.extract (t138 : Int).toNat a0.size)).bind fun bt140 => (if bt140.2 = 0 then (some (t137, bt140.1, wrap64 ((wrap64 (t138 + (bt140.1.size : Int))) + 1), 0)) else (some (0, (⟨#[]⟩ : ByteArray), 0, bt140.2)))) else (none)) else (none)) else (some (0, (⟨#[]⟩ : ByteArray), 0, t139))) = some (r1, r2, r3, r4) := H
  have A2 := Aside0.mk A20
  clear A20
  by_cases c3 : t139 = 0
  · rw [if_pos c3] at H
    have c3b0 : (t139 == 0) = true := beq_iff_eq.mpr c3
    have c3b1 : (t139 != 0) = false := bne_eq_false_iff_eq.mpr c3
    clear c3
    by_cases c4 : 0 ≤ t138
    · rw [if_pos c4] at H
      have c4b0 := eq_true c4
      have c4b1 : decide (0 ≤ t138) = true := decide_eq_true c4
      clear c4
      by_cases c5 : t138 ≤ (a0.size : Int)
      · rw [if_pos c5] at H
        have c5b0 := eq_true c5
        have c5b1 : decide (t138 ≤ (a0.size : Int)) = true := decide_eq_true c5
        clear c5
        replace H := Option.bind_eq_some_iff.mp H
        obtain ⟨⟨t140, t141⟩, A60, H⟩ := H
        replace H : (if t141 = 0 then (some (t137, t140, wrap64 ((wrap64 (t138 + (t140.size : Int))) + 1), 0)) else (some (0, (⟨#[]⟩ : ByteArray), 0, t141))) = some (r1, r2, r3, r4) := H
        have A6 := Aside0.mk A60
        clear A60
        by_cases c7 : t141 = 0
        · rw [if_pos c7] at H
          have c7b0 : (t141 == 0) = true := beq_iff_eq.mpr c7
          have c7b1 : (t141 != 0) = false := bne_eq_false_iff_eq.mpr c7
          clear c7
          simp only [Option.some.injEq, Prod.mk.injEq] at H
          obtain ⟨rfl, rfl, rfl, rfl⟩ := H
          go_enter Tryz.func71, Tryz.ntmps71
          go_wp2_with (first | ((with_reducible refine gate_dst (N := 2) rfl ?_); refine box_event ?hg (N := 2) ?hd (cs := #[.int .i64 0, .string (⟨#[]⟩ : ByteArray)]) (t := 74) ?hr ?_; (case hd => rfl); (case hg => rfl); (case hr => first | (go_simp; done) | (go_simp; rfl)); intro gb136 hg w8 hbox hb; have n0_ := Aside0.mk (below_step (by repeat (first | (with_reducible first | exact HB.out | apply below_alloc | apply pw_below_drewN | apply below_drew1) | exact HB.out)) hb); have n1_ := Aside0.mk (hbox); have n2_ := Aside0.mk ((by rw [hg]; exact (below_size (by repeat (first | (with_reducible first | exact HB.out | apply below_alloc | apply pw_below_drewN | apply below_drew1) | exact HB.out))) : w.heap.size ≤ gb136)); have n3_ := Aside0.mk ((by rw [hg]; exact (below_size (by repeat (first | (with_reducible first | exact HB.out | apply below_alloc | apply pw_below_drewN | apply below_drew1) | exact HB.out))) : w.heap.size ≤ gb136)); clear HB; have HB := n0_; have BK136 := n1_; have GW136 := n2_; have GE136 := n3_; clear n0_ n1_ n2_ n3_; clear hb hbox hg) | ((with_reducible refine gate_callee (f := 90) rfl ?_); refine goesL_ (some 9) rfl rfl Tryz.func90 (by kernel_rfl) rfl #[.string a0] rfl (by (try simp only [List.map_toArray, List.map_cons, List.map_nil]); first | done | rfl | (simp only [List.length_drop, List.length_take]; rfl)) ?_; (with_reducible refine (tag_number.calls a0 t137 t138 t139 _ A2.out).mono ?_); rintro e w9 ⟨rfl, hb⟩; refine ⟨_, rfl, ?_⟩; have n0_ := Aside0.mk (blk_below (g := gb136) (o := .cells #[.int .i64 0, .string (⟨#[]⟩ : ByteArray)] 74 (0, 0)) (by (with_reducible repeat (first | refine blk_drewN ?_ _ | refine blk_drew ?_ | refine blk_alloc ?_ _)); exact BK136.out) hb); have n1_ := Aside0.mk (below_step (by repeat (first | (with_reducible first | exact HB.out | apply below_alloc | apply pw_below_drewN | apply below_drew1 | refine below_set ?_ GE136.out) | exact HB.out)) hb); clear BK136; clear HB; have BK136 := n0_; have HB := n1_; clear n0_ n1_; (try clear hb); (try clear hb2); (try clear hk); (try clear hi)) | ((with_reducible refine gate_callee (f := 91) rfl ?_); refine goesL_ (some 21) rfl rfl Tryz.func91 (by kernel_rfl) rfl #[.string (a0.extract (t138 : Int).toNat a0.size)] rfl (by (try simp only [List.map_toArray, List.map_cons, List.map_nil]); first | done | rfl | (simp only [List.length_drop, List.length_take]; rfl)) ?_; (with_reducible refine (tag_text.calls (a0.extract (t138 : Int).toNat a0.size) t140 t141 _ A6.out).mono ?_); rintro e w10 ⟨rfl, hb⟩; refine ⟨_, rfl, ?_⟩; have n0_ := Aside0.mk (blk_below (g := gb136) (o := .cells #[.int .i64 0, .string (⟨#[]⟩ : ByteArray)] 74 (0, 0)) (by (with_reducible repeat (first | refine blk_drewN ?_ _ | refine blk_drew ?_ | refine blk_alloc ?_ _)); exact BK136.out) hb); have n1_ := Aside0.mk (below_step (by repeat (first | (with_reducible first | exact HB.out | apply below_alloc | apply pw_below_drewN | apply below_drew1 | refine below_set ?_ GE136.out) | exact HB.out)) hb); clear BK136; clear HB; have BK136 := n0_; have HB := n1_; clear n0_ n1_; (try clear hb); (try clear hb2); (try clear hk); (try clear hi); have hcz11_0 : w10.cell? ⟨gb136, 0, none⟩ = some (.int .i64 0) := (blk_cell BK136.out 0).trans rfl; have hcz11_1 : w10.cell? ⟨gb136, 1, none⟩ = some (.string (⟨#[]⟩ : ByteArray)) := (blk_cell BK136.out 1).trans rfl; have hfz11_0 := blk_frozen BK136.out 0; have hfz11_1 := blk_frozen BK136.out 1))
          refine bodyPost_ret (results_ctt rfl _ _ gb136 74 #[.int .i64 t137, .string t140] (0, 0) _ rfl (by (with_reducible repeat (first | refine blk_drewN ?_ _ | refine blk_drew ?_ | refine blk_alloc ?_ _)); refine blk_put (cs := #[.int .i64 t137, .string (⟨#[]⟩ : ByteArray)]) ?_ 1 _ rfl; (with_reducible repeat (first | refine blk_drewN ?_ _ | refine blk_drew ?_ | refine blk_alloc ?_ _)); refine blk_put (cs := #[.int .i64 0, .string (⟨#[]⟩ : ByteArray)]) ?_ 0 _ rfl; (with_reducible repeat (first | refine blk_drewN ?_ _ | refine blk_drew ?_ | refine blk_alloc ?_ _)); exact BK136.out) Tryz.underlying74 rfl (by kernel_rfl)) rfl ?_
          exact ⟨by first | rfl | (simp [errW_none, errW_some] <;> rfl) | (simp [*, errW_none, errW_some] <;> rfl), by repeat (first | (with_reducible first | exact HB.out | apply below_alloc | apply pw_below_drewN | apply below_drew1 | refine below_set ?_ GE136.out) | exact HB.out)⟩
        · rw [if_neg c7] at H
          have c7b0 : (t141 == 0) = false := beq_eq_false_iff_ne.mpr c7
          have c7b1 : (t141 != 0) = true := bne_iff_ne.mpr c7
          simp only [Option.some.injEq, Prod.mk.injEq] at H
          obtain ⟨rfl, rfl, rfl, rfl⟩ := H
          go_enter Tryz.func71, Tryz.ntmps71
          go_wp2_with (first | ((with_reducible refine gate_dst (N := 2) rfl ?_); refine box_event ?hg (N := 2) ?hd (cs := #[.int .i64 0, .string (⟨#[]⟩ : ByteArray)]) (t := 74) ?hr ?_; (case hd => rfl); (case hg => rfl); (case hr => first | (go_simp; done) | (go_simp; rfl)); intro gb136 hg w12 hbox hb; have n0_ := Aside0.mk (below_step (by repeat (first | (with_reducible first | exact HB.out | apply below_alloc | apply pw_below_drewN | apply below_drew1) | exact HB.out)) hb); have n1_ := Aside0.mk (hbox); have n2_ := Aside0.mk ((by rw [hg]; exact (below_size (by repeat (first | (with_reducible first | exact HB.out | apply below_alloc | apply pw_below_drewN | apply below_drew1) | exact HB.out))) : w.heap.size ≤ gb136)); have n3_ := Aside0.mk ((by rw [hg]; exact (below_size (by repeat (first | (with_reducible first | exact HB.out | apply below_alloc | apply pw_below_drewN | apply below_drew1) | exact HB.out))) : w.heap.size ≤ gb136)); clear HB; have HB := n0_; have BK136 := n1_; have GW136 := n2_; have GE136 := n3_; clear n0_ n1_ n2_ n3_; clear hb hbox hg) | ((with_reducible refine gate_callee (f := 90) rfl ?_); refine goesL_ (some 9) rfl rfl Tryz.func90 (by kernel_rfl) rfl #[.string a0] rfl (by (try simp only [List.map_toArray, List.map_cons, List.map_nil]); first | done | rfl | (simp only [List.length_drop, List.length_take]; rfl)) ?_; (with_reducible refine (tag_number.calls a0 t137 t138 t139 _ A2.out).mono ?_); rintro e w13 ⟨rfl, hb⟩; refine ⟨_, rfl, ?_⟩; have n0_ := Aside0.mk (blk_below (g := gb136) (o := .cells #[.int .i64 0, .string (⟨#[]⟩ : ByteArray)] 74 (0, 0)) (by (with_reducible repeat (first | refine blk_drewN ?_ _ | refine blk_drew ?_ | refine blk_alloc ?_ _)); exact BK136.out) hb); have n1_ := Aside0.mk (below_step (by repeat (first | (with_reducible first | exact HB.out | apply below_alloc | apply pw_below_drewN | apply below_drew1 | refine below_set ?_ GE136.out) | exact HB.out)) hb); clear BK136; clear HB; have BK136 := n0_; have HB := n1_; clear n0_ n1_; (try clear hb); (try clear hb2); (try clear hk); (try clear hi)) | ((with_reducible refine gate_callee (f := 91) rfl ?_); refine goesL_ (some 21) rfl rfl Tryz.func91 (by kernel_rfl) rfl #[.string (a0.extract (t138 : Int).toNat a0.size)] rfl (by (try simp only [List.map_toArray, List.map_cons, List.map_nil]); first | done | rfl | (simp only [List.length_drop, List.length_take]; rfl)) ?_; (with_reducible refine (tag_text.calls (a0.extract (t138 : Int).toNat a0.size) t140 t141 _ A6.out).mono ?_); rintro e w14 ⟨rfl, hb⟩; refine ⟨_, rfl, ?_⟩; have n0_ := Aside0.mk (blk_below (g := gb136) (o := .cells #[.int .i64 0, .string (⟨#[]⟩ : ByteArray)] 74 (0, 0)) (by (with_reducible repeat (first | refine blk_drewN ?_ _ | refine blk_drew ?_ | refine blk_alloc ?_ _)); exact BK136.out) hb); have n1_ := Aside0.mk (below_step (by repeat (first | (with_reducible first | exact HB.out | apply below_alloc | apply pw_below_drewN | apply below_drew1 | refine below_set ?_ GE136.out) | exact HB.out)) hb); clear BK136; clear HB; have BK136 := n0_; have HB := n1_; clear n0_ n1_; (try clear hb); (try clear hb2); (try clear hk); (try clear hi); have hcz15_0 : w14.cell? ⟨gb136, 0, none⟩ = some (.int .i64 0) := (blk_cell BK136.out 0).trans rfl; have hcz15_1 : w14.cell? ⟨gb136, 1, none⟩ = some (.string (⟨#[]⟩ : ByteArray)) := (blk_cell BK136.out 1).trans rfl; have hfz15_0 := blk_frozen BK136.out 0; have hfz15_1 := blk_frozen BK136.out 1))
          refine bodyPost_ret (results_ctt rfl _ _ gb136 74 #[.int .i64 0, .string (⟨#[]⟩ : ByteArray)] (0, 0) _ rfl (by (with_reducible repeat (first | refine blk_drewN ?_ _ | refine blk_drew ?_ | refine blk_alloc ?_ _)); refine blk_put (cs := #[.int .i64 0, .string (⟨#[]⟩ : ByteArray)]) ?_ 1 _ rfl; (with_reducible repeat (first | refine blk_drewN ?_ _ | refine blk_drew ?_ | refine blk_alloc ?_ _)); refine blk_put (cs := #[.int .i64 0, .string (⟨#[]⟩ : ByteArray)]) ?_ 0 _ rfl; (with_reducible repeat (first | refine blk_drewN ?_ _ | refine blk_drew ?_ | refine blk_alloc ?_ _)); exact BK136.out) Tryz.underlying74 rfl (by kernel_rfl)) rfl ?_
          exact ⟨by first | rfl | (simp [errW_none, errW_some] <;> rfl) | (simp [*, errW_none, errW_some] <;> rfl), by repeat (first | (with_reducible first | exact HB.out | apply below_alloc | apply pw_below_drewN | apply below_drew1 | refine below_set ?_ GE136.out) | exact HB.out)⟩
      · rw [if_neg c5] at H
        exact absurd H (by simp)
    · rw [if_neg c4] at H
      exact absurd H (by simp)
  · rw [if_neg c3] at H
    have c3b0 : (t139 == 0) = false := beq_eq_false_iff_ne.mpr c3
    have c3b1 : (t139 != 0) = true := bne_iff_ne.mpr c3
    simp only [Option.some.injEq, Prod.mk.injEq] at H
    obtain ⟨rfl, rfl, rfl, rfl⟩ := H
    go_enter Tryz.func71, Tryz.ntmps71
    go_wp2_with (first | ((with_reducible refine gate_dst (N := 2) rfl ?_); refine box_event ?hg (N := 2) ?hd (cs := #[.int .i64 0, .string (⟨#[]⟩ : ByteArray)]) (t := 74) ?hr ?_; (case hd => rfl); (case hg => rfl); (case hr => first | (go_simp; done) | (go_simp; rfl)); intro gb136 hg w16 hbox hb; have n0_ := Aside0.mk (below_step (by repeat (first | (with_reducible first | exact HB.out | apply below_alloc | apply pw_below_drewN | apply below_drew1) | exact HB.out)) hb); have n1_ := Aside0.mk (hbox); have n2_ := Aside0.mk ((by rw [hg]; exact (below_size (by repeat (first | (with_reducible first | exact HB.out | apply below_alloc | apply pw_below_drewN | apply below_drew1) | exact HB.out))) : w.heap.size ≤ gb136)); have n3_ := Aside0.mk ((by rw [hg]; exact (below_size (by repeat (first | (with_reducible first | exact HB.out | apply below_alloc | apply pw_below_drewN | apply below_drew1) | exact HB.out))) : w.heap.size ≤ gb136)); clear HB; have HB := n0_; have BK136 := n1_; have GW136 := n2_; have GE136 := n3_; clear n0_ n1_ n2_ n3_; clear hb hbox hg) | ((with_reducible refine gate_callee (f := 90) rfl ?_); refine goesL_ (some 9) rfl rfl Tryz.func90 (by kernel_rfl) rfl #[.string a0] rfl (by (try simp only [List.map_toArray, List.map_cons, List.map_nil]); first | done | rfl | (simp only [List.length_drop, List.length_take]; rfl)) ?_; (with_reducible refine (tag_number.calls a0 t137 t138 t139 _ A2.out).mono ?_); rintro e w17 ⟨rfl, hb⟩; refine ⟨_, rfl, ?_⟩; have n0_ := Aside0.mk (blk_below (g := gb136) (o := .cells #[.int .i64 0, .string (⟨#[]⟩ : ByteArray)] 74 (0, 0)) (by (with_reducible repeat (first | refine blk_drewN ?_ _ | refine blk_drew ?_ | refine blk_alloc ?_ _)); exact BK136.out) hb); have n1_ := Aside0.mk (below_step (by repeat (first | (with_reducible first | exact HB.out | apply below_alloc | apply pw_below_drewN | apply below_drew1 | refine below_set ?_ GE136.out) | exact HB.out)) hb); clear BK136; clear HB; have BK136 := n0_; have HB := n1_; clear n0_ n1_; (try clear hb); (try clear hb2); (try clear hk); (try clear hi); have hcz18_0 : w17.cell? ⟨gb136, 0, none⟩ = some (.int .i64 0) := (blk_cell BK136.out 0).trans rfl; have hcz18_1 : w17.cell? ⟨gb136, 1, none⟩ = some (.string (⟨#[]⟩ : ByteArray)) := (blk_cell BK136.out 1).trans rfl; have hfz18_0 := blk_frozen BK136.out 0; have hfz18_1 := blk_frozen BK136.out 1))
    refine bodyPost_ret (results_ctt rfl _ _ gb136 74 #[.int .i64 0, .string (⟨#[]⟩ : ByteArray)] (0, 0) _ rfl (by (with_reducible repeat (first | refine blk_drewN ?_ _ | refine blk_drew ?_ | refine blk_alloc ?_ _)); refine blk_put (cs := #[.int .i64 0, .string (⟨#[]⟩ : ByteArray)]) ?_ 1 _ rfl; (with_reducible repeat (first | refine blk_drewN ?_ _ | refine blk_drew ?_ | refine blk_alloc ?_ _)); refine blk_put (cs := #[.int .i64 0, .string (⟨#[]⟩ : ByteArray)]) ?_ 0 _ rfl; (with_reducible repeat (first | refine blk_drewN ?_ _ | refine blk_drew ?_ | refine blk_alloc ?_ _)); exact BK136.out) Tryz.underlying74 rfl (by kernel_rfl)) rfl ?_
    exact ⟨by first | rfl | (simp [errW_none, errW_some] <;> rfl) | (simp [*, errW_none, errW_some] <;> rfl), by repeat (first | (with_reducible first | exact HB.out | apply below_alloc | apply pw_below_drewN | apply below_drew1 | refine below_set ?_ GE136.out) | exact HB.out)⟩
theorem nextL_numerr (l : List UInt8) (h : (numL l 0 0).2.2 ≠ 0) : nextL l = ((0, []), 0, (numL l 0 0).2.2) := by unfold nextL; simp only; rw [if_pos h]
theorem nextL_texterr (l : List UInt8) (h : (numL l 0 0).2.2 = 0) (h2 : (textL (l.drop (numL l 0 0).2.1) 0).2 ≠ 0) : nextL l = ((0, []), 0, (textL (l.drop (numL l 0 0).2.1) 0).2) := by
  unfold nextL; simp only; rw [if_neg (by simpa using h), if_pos h2]
theorem nextL_ok (l : List UInt8) (h : (numL l 0 0).2.2 = 0) (h2 : (textL (l.drop (numL l 0 0).2.1) 0).2 = 0) : nextL l = (((numL l 0 0).1, (l.drop (numL l 0 0).2.1).take (textL (l.drop (numL l 0 0).2.1) 0).1), (numL l 0 0).2.1 + (textL (l.drop (numL l 0 0).2.1) 0).1 + 1, 0) := by
  unfold nextL; simp only; rw [if_neg (by simpa using h), if_neg (by simpa using h2)]
theorem drop_list (s : ByteArray) (n : Nat) : (s.extract n s.size).data.toList = s.data.toList.drop n := by
  rw [ByteArray.data_extract, Array.toList_extract, List.extract_eq_take_drop]; exact List.take_of_length_le (by rw [List.length_drop, size_list]; omega)
theorem extract_list (s : ByteArray) (a b : Nat) : (s.extract a b).data.toList = (s.data.toList.drop a).take (b - a) := by
  rw [ByteArray.data_extract, Array.toList_extract, List.extract_eq_take_drop]
def tag_Next.f (a0 : ByteArray) : Option (Int × ByteArray × Int × Int) := if a0.size ≤ big then some (((nextL a0.data.toList).1.1 : Int), ⟨(nextL a0.data.toList).1.2.toArray⟩, ((nextL a0.data.toList).2.1 : Int), ((nextL a0.data.toList).2.2 : Int)) else none
theorem tag_Next_eq (s : ByteArray) (hs : s.size ≤ big) : tag_Next_p.f s = tag_Next.f s := by
  unfold tag_Next.f tag_Next_p.f tag_number.f
  rw [if_pos hs, if_pos hs]
  simp only [Option.bind_some]
  by_cases h1 : (numL s.data.toList 0 0).2.2 = 0
  · have hn := numL_le s.data.toList 0 0 h1
    rw [size_list] at hn
    rw [if_pos (by omega), if_pos (by omega), if_pos (by omega), Int.toNat_natCast]
    have hz : (s.extract (numL s.data.toList 0 0).2.1 s.size).size ≤ big := by rw [ByteArray.size_extract]; omega
    unfold tag_text.f
    rw [if_pos hz]
    simp only [Option.bind_some]
    rw [drop_list]
    by_cases h2 : (textL (s.data.toList.drop (numL s.data.toList 0 0).2.1) 0).2 = 0
    · rw [if_pos (by omega), nextL_ok _ h1 h2, if_pos h2]
      have ht := textL_le _ (s.data.toList.drop (numL s.data.toList 0 0).2.1) 0 (Nat.le_refl _) h2
      rw [List.length_drop, size_list] at ht
      have e1 : (⟨((s.data.toList.drop (numL s.data.toList 0 0).2.1).take (textL (s.data.toList.drop (numL s.data.toList 0 0).2.1) 0).1).toArray⟩ : ByteArray) = (s.extract (numL s.data.toList 0 0).2.1 s.size).extract 0 (textL (s.data.toList.drop (numL s.data.toList 0 0).2.1) 0).1 := by
        apply ba_ext; rw [take_list, drop_list]
      have e2 : ((s.extract (numL s.data.toList 0 0).2.1 s.size).extract 0 (textL (s.data.toList.drop (numL s.data.toList 0 0).2.1) 0).1).size = (textL (s.data.toList.drop (numL s.data.toList 0 0).2.1) 0).1 := by
        rw [ByteArray.size_extract, ByteArray.size_extract]; omega
      rw [e1, e2]
      unfold big at hs
      rw [w64_sum1 _ _ (by omega)]
      simp
    · rw [if_neg (by omega), nextL_texterr _ h1 h2]; simp
  · rw [if_neg (by omega), nextL_numerr _ h1]; simp
theorem tag_Next.calls (a0 : ByteArray) (r1 : Int) (r2 : ByteArray) (r3 : Int) (r4 : Int) (w : World) (h : tag_Next.f a0 = some (r1, r2, r3, r4)) :
    Calls Tryz.prog 71 #[.string a0] w fun e w' => e = .returned (.tuple #[.agg #[.int .i64 r1, .string r2], .int .i64 r3, .int .i64 r4]) ∧ Below w.heap.size w w' := by
  by_cases c : a0.size ≤ big
  · exact tag_Next_p.calls a0 r1 r2 r3 r4 w ((tag_Next_eq a0 c).trans h)
  · unfold tag_Next.f at h; rw [if_neg c] at h; cases h
end Go.Proofs.YtgfigkfcmkdjdaaGreatDoor.B
end
