/- The functions that the law reaches, as plain Lean functions, and their contracts: texts merged. -/
import Derived.Laws.StructEq
import Derived.Test.YtgfigkfcmkdjdaaDoorzAskBack2
import Derived.Test.YtgfigkfcmkdjdaaDoorzAskBack0
import Derived.Test.YtgfigkfcmkdjdaaDoorzAskBack1
import Derived.Test.YtgfigkfcmkdjdaaDoorzAskBack3
import Derived.Test.YtgfigkfcmkdjdaaDoorzAskBack8
import Derived.Test.YtgfigkfcmkdjdaaDoorzAskBack11
import Derived.Test.YtgfigkfcmkdjdaaDoorzAskBack14
section
namespace Go.Proofs.YtgfigkfcmkdjdaaDoor.B
open Go.RowKit Go.Proofs.YtgfigkfcmkdjdaaDoorW.PrintWords Go.Proofs.YtgfigkfcmkdjdaaDoorW.PrintLast Go.Proofs.YtgfigkfcmkdjdaaDoorW.PrintMore
attribute [local go_sem] max2_int min2_int max_two min_two max_three min_three max_four min_four   -- for this text's walks alone
set_option linter.unusedVariables false
set_option linter.unusedSimpArgs false
def takeInts (s : ByteArray) (most low high : Int) : List Int × Int :=
  if (numsP (splitC 44 s.data.toList) []).2 = 0 ∧ most < ((numsP (splitC 44 s.data.toList) []).1.length : Int) then ([], 3)
  else if (numsP (splitC 44 s.data.toList) []).1.any (fun n => decide (n < low) || decide (high < n)) = true then ([], 2) else numsP (splitC 44 s.data.toList) []
theorem numsP_len : ∀ (ws : List (List UInt8)) (acc : List Int), (numsP ws acc).1.length ≤ acc.length + ws.length
  | [], acc => Nat.le_refl _
  | w :: ws, acc => by
    unfold numsP
    split
    · have h := numsP_len ws (acc ++ [((numP w).1 : Int)])
      rw [List.length_append, List.length_cons, List.length_nil] at h
      rw [List.length_cons]; omega
    · exact Nat.zero_le _
set_option maxRecDepth 100000 in
set_option maxHeartbeats 4000000 in
theorem ints_closure (b0 b1 b2 : Nat) (most low high : Int) (s : ByteArray) (w : World) (hT_ : Aside0 (Tabs_ w)) (hs : s.size ≤ 512) (h0 : w.cell? ⟨b0, 0, none⟩ = some (.int .i64 most)) (h1 : w.cell? ⟨b1, 0, none⟩ = some (.int .i64 low)) (h2 : w.cell? ⟨b2, 0, none⟩ = some (.int .i64 high)) :
    Calls Tryd.prog 131 (#[.string s] ++ #[.pointer (some ⟨b0, 0, none⟩), .pointer (some ⟨b1, 0, none⟩), .pointer (some ⟨b2, 0, none⟩)]) w fun e w' => ∃ v, e = .returned (.tuple #[v, .int .i64 (takeInts s most low high).2]) ∧ Kd.R (Kd.int .i64) 3 w' w.heap.size (fun _ => True) v (takeInts s most low high).1 ∧ Below w.heap.size w w' := by
  have HN : Aside0 (Calls Tryd.prog 132 #[.string s] w fun e w' => ∃ v0_ : Value, e = .returned (.tuple #[v0_, .int .i64 (numsP (splitC 44 s.data.toList) []).2]) ∧ Kd.R (Kd.int .i64) 3 w' w.heap.size (fun _ => True) v0_ (numsP (splitC 44 s.data.toList) []).1 ∧ Below w.heap.size w w') := ⟨body_Numbers.calls s _ _ w hT_ (by unfold body_Numbers.f; rw [if_pos (by omega)])⟩
  have l0 := World.block_lt_of_cell? w _ h0
  have l1 := World.block_lt_of_cell? w _ h1
  have l2 := World.block_lt_of_cell? w _ h2
  have hll : (numsP (splitC 44 s.data.toList) []).1.length ≤ 1000 := by
    have h1 := numsP_len (splitC 44 s.data.toList) []
    have h2 := (splitC_sizes 44 s.data.toList).1
    have h3 : s.data.toList.length = s.size := rfl
    simp only [List.length_nil] at h1
    omega
  unfold takeInts
  generalize numsP (splitC 44 s.data.toList) [] = r at *
  obtain ⟨l, e⟩ := r
  simp only at HN hll ⊢
  obtain ⟨R, hRd⟩ : ∃ R : List Int × Int, R = (if e = 0 ∧ most < (l.length : Int) then ([], 3) else if l.any (fun n => decide (n < low) || decide (high < n)) = true then ([], 2) else (l, e)) := ⟨_, rfl⟩
  rw [← hRd]
  by_cases cA : e = 0 ∧ most < (l.length : Int)
  · have t1 : (e == 0) = true := by rw [cA.1]; rfl
    have t2 : decide (most < (l.length : Int)) = true := decide_eq_true cA.2
    rw [if_pos cA] at hRd
    subst hRd
    clear cA
    go_enter Tryd.func131, Tryd.ntmps131
    go_wp2_with (go_at_call 132; ((with_reducible refine HN.out.mono ?_)); rintro en w1 ⟨v, rfl, hR, hb⟩; obtain ⟨A, c, rfl, hc, hC⟩ := Kd.R_reads hR; have HB := Aside0.mk hb; have h0' := (hb.cell (p := ⟨b0, 0, none⟩) l0).trans h0; have h1' := (hb.cell (p := ⟨b1, 0, none⟩) l1).trans h1; have h2' := (hb.cell (p := ⟨b2, 0, none⟩) l2).trans h2; clear hb hR hc hC)
    go_ret2
    exact ⟨_, rfl, Kd.R_nil _ _ _ _ _, HB.out⟩
  · have HF : Aside0 (R = if l.any (fun n => decide (n < low) || decide (high < n)) = true then ([], 2) else (l, e)) := ⟨by rw [hRd, if_neg cA]⟩
    have ht : ((e == 0) = false) ∨ ((e == 0) = true ∧ decide (most < (l.length : Int)) = false) := by
      by_cases c : e = 0
      · exact .inr ⟨by rw [c]; rfl, decide_eq_false (fun h => cA ⟨c, h⟩)⟩
      · exact .inl (by rw [beq_eq_false_iff_ne]; exact c)
    clear hRd cA
    go_enter Tryd.func131, Tryd.ntmps131
    rcases ht with t1 | ⟨t1, t2⟩
    all_goals
      go_wp2_with (go_at_call 132; ((with_reducible refine HN.out.mono ?_)); rintro en w1 ⟨v, rfl, hR, hb⟩; obtain ⟨A, c, rfl, hc, hC⟩ := Kd.R_reads hR; have HB := Aside0.mk hb; have HC := Aside0.mk hC; have HR := Aside0.mk hR; have h0' := (hb.cell (p := ⟨b0, 0, none⟩) l0).trans h0; have h1' := (hb.cell (p := ⟨b1, 0, none⟩) l1).trans h1; have h2' := (hb.cell (p := ⟨b2, 0, none⟩) l2).trans h2; clear hb hR hc hC)
      go_loopw [26] (fun v26 wr => ∃ i : Nat, v26 = .int .i64 (i : Int) ∧ i ≤ l.length ∧ wr = w1 ∧ Aside0 ((l.drop i).any (fun n => decide (n < low) || decide (high < n)) = l.any (fun n => decide (n < low) || decide (high < n)))) (fun v26 _ => l.length - (intOf v26).toNat)
      case atStart => exact ⟨0, rfl, Nat.zero_le _, rfl, ⟨rfl⟩⟩
      case round =>
        obtain ⟨i, rfl, hi, rfl, HA⟩ := hrel
        by_cases hlt : i < l.length
        · obtain ⟨ad, hA, hx⟩ := Kd.at_int HC.out (i : Int) (by omega) (by omega)
          subst hA
          have k1 : decide ((i : Int) < (l.length : Int)) = true := by rw [decide_eq_true_eq]; omega
          have k2 : (0 : Int) ≤ (i : Int) ∧ (i : Int) < (l.length : Int) := by omega
          have hti : ((i : Int)).toNat = i := Int.toNat_natCast i
          have hd : l.drop i = rd l (i : Int) :: l.drop (i + 1) := by
            rw [List.drop_eq_getElem_cons hlt]; congr 1; simp [rd, hlt]
          rw [hd, List.any_cons] at HA
          rw [hti] at hx
          clear hd
          generalize rd l (i : Int) = x at *
          by_cases c1 : x < low
          · have t3 : decide (x < low) = true := decide_eq_true c1
            have HA2 : Aside0 (R = ([], 2)) := ⟨by rw [HF.out, if_pos (by rw [← HA.out, t3]; rfl)]⟩
            clear HA c1
            go_wp2
            go_ret2
            rw [HA2.out]
            exact ⟨_, rfl, Kd.R_nil _ _ _ _ _, HB.out⟩
          · have t3 : decide (x < low) = false := decide_eq_false c1
            by_cases c2 : high < x
            · have t4 : decide (high < x) = true := decide_eq_true c2
              have HA2 : Aside0 (R = ([], 2)) := ⟨by rw [HF.out, if_pos (by rw [← HA.out, t3, t4]; rfl)]⟩
              clear HA c1 c2
              go_wp2
              go_ret2
              rw [HA2.out]
              exact ⟨_, rfl, Kd.R_nil _ _ _ _ _, HB.out⟩
            · have t4 : decide (high < x) = false := decide_eq_false c2
              have HA2 : Aside0 ((l.drop (i + 1)).any (fun n => decide (n < low) || decide (high < n)) = l.any (fun n => decide (n < low) || decide (high < n))) := ⟨by rw [← HA.out, t3, t4]; rfl⟩
              clear HA c1 c2
              go_wp2
              refine ⟨⟨i + 1, by rw [show ((i + 1 : Nat) : Int) = (i : Int) + 1 by omega], by omega, trivial, HA2⟩, ?_⟩
              show l.length - ((i : Int) + 1).toNat < l.length - ((i : Int)).toNat
              omega
        · have k1 : decide ((i : Int) < (l.length : Int)) = false := by rw [decide_eq_false_iff_not]; omega
          have HA2 : Aside0 (R = (l, e)) := ⟨by rw [HF.out, if_neg (by rw [← HA.out, List.drop_eq_nil_of_le (by omega)]; simp)]⟩
          clear HA
          go_wp2
          go_ret2
          rw [HA2.out]
          exact ⟨_, rfl, HR.out, HB.out⟩
set_option maxRecDepth 100000 in
set_option maxHeartbeats 4000000 in
theorem ask_ints (g : Nat) (p : PlS) (F : FormS) (k : Nat) (w : World) (h : FormIs g p F k w) (hk : k < 9223372036854775807) (hv : ∀ x s, F.vals x = some s → s.size ≤ 512) (hT : ∀ X, Turned (FormB g p) w X → Tabs_ X) (t most low high : Int) (ht : i64ok t) (b0 b1 b2 : Nat)
    (h0 : w.cell? ⟨b0, 0, none⟩ = some (.int .i64 most)) (h1 : w.cell? ⟨b1, 0, none⟩ = some (.int .i64 low)) (h2 : w.cell? ⟨b2, 0, none⟩ = some (.int .i64 high)) (n0 : ¬ FormB g p b0) (n1 : ¬ FormB g p b1) (n2 : ¬ FormB g p b2) :
    Calls Tryd.prog 130 #[.pointer (some ⟨g, 0, none⟩), .int .i64 t, .func (.func 131) #[] #[.pointer (some ⟨b0, 0, none⟩), .pointer (some ⟨b1, 0, none⟩), .pointer (some ⟨b2, 0, none⟩)]] w fun e w' =>
      ∃ v, e = .returned v ∧ Kd.R (Kd.int .i64) 3 w' w.heap.size (fun _ => True) v (askL (fun s => takeInts s most low high) [] F t).1 ∧ FormIs g p (askL (fun s => takeInts s most low high) [] F t).2 (k + 1) w' ∧ Turned (FormB g p) w w' := by
  have hc1 := h.c1
  have hc2 := h.c2
  have hc4 := h.c4
  have HF := Aside0.mk h
  have HIs := Aside0.mk (form_is g p F k w h)
  by_cases he : F.e = 0
  · have t1 : (F.e != 0) = false := by rw [he]; rfl
    obtain ⟨w1, hrun, hAs, hgr⟩ := h.asked.put t ht hk
    have HF1 : Aside0 (FormIs g p (F.mark t) (k + 1) w1) := ⟨h.ask hAs hgr⟩
    have HT : Aside0 (Turned (FormB g p) w w1) := ⟨Turned.of_grown hgr (.inr rfl)⟩
    have HH := Aside0.mk (form_has g p _ _ w1 HF1.out t ht)
    have h0' := HT.out.cell h0 n0
    have h1' := HT.out.cell h1 n1
    have h2' := HT.out.cell h2 n2
    have HTb : Aside0 (Tabs_ w1) := ⟨hT w1 HT.out⟩
    have hc11 := HF1.out.c1
    have hlk := HF1.out.vals.look t ht
    clear hgr hAs h0 h1 h2 hT
    have hc31 := HF1.out.c3
    have hc41 := HF1.out.c4
    have hl31 := HF1.out.l3
    have hl41 := HF1.out.l4
    rw [show (F.mark t).vals t = F.vals t from rfl] at HH hlk
    cases hvt : F.vals t with
    | none =>
      have HA := Aside0.mk (askL_none (fun s => takeInts s most low high) [] F t he hvt)
      rw [hvt] at HH hlk
      have HE := Aside0.mk (HF1.out.fail t 110)
      have HT2 : Aside0 (Turned (FormB g p) w ((w1.setCell ⟨g, 3, none⟩ (.int .i64 t)).setCell ⟨g, 4, none⟩ (.int .i64 110))) := ⟨(HT.out.setCell (p := ⟨g, 3, none⟩) (.inl rfl) _).setCell (p := ⟨g, 4, none⟩) (.inl rfl) _⟩
      simp only [Option.isSome_none] at HH
      clear hlk
      go_enter Tryd.func130, Tryd.ntmps130
      go_wp2_with (first | (go_at_call 102; refine HIs.out.mono ?_; rintro e w' ⟨rfl, hh⟩; obtain rfl : w = w' := hh.symm) | (go_at_call 101; refine HH.out.mono ?_; rintro e w' ⟨rfl, hh⟩; obtain rfl : w1 = w' := hh.symm))
      go_ret
      rw [HA.out]
      exact ⟨_, rfl, Kd.R_nil _ _ _ _ _, HE.out, HT2.out⟩
    | some s =>
      have HA := Aside0.mk (askL_some (fun s => takeInts s most low high) [] F t he hvt)
      rw [hvt] at HH hlk
      simp only [Option.isSome_some, Option.getD_some] at HH hlk
      have HC := Aside0.mk (ints_closure b0 b1 b2 most low high s w1 HTb (hv t s hvt) h0' h1' h2')
      try simp only at HA
      generalize hr : takeInts s most low high = r at *
      obtain ⟨n, e⟩ := r
      try simp only at HA HC
      clear hr h0' h1' h2'
      have HR : Aside0 (∀ w2, Below w1.heap.size w1 w2 → FormIs g p (F.mark t) (k + 1) w2 ∧ Turned (FormB g p) w w2) := ⟨fun w2 hb => ⟨HF1.out.below hb, HT.out.trans (Turned.of_below hb)⟩⟩
      have HE : Aside0 (∀ w2, FormIs g p (F.mark t) (k + 1) w2 → Turned (FormB g p) w w2 → FormIs g p ((F.mark t).fail t e) (k + 1) ((w2.setCell ⟨g, 3, none⟩ (.int .i64 t)).setCell ⟨g, 4, none⟩ (.int .i64 e)) ∧ Turned (FormB g p) w ((w2.setCell ⟨g, 3, none⟩ (.int .i64 t)).setCell ⟨g, 4, none⟩ (.int .i64 e))) := ⟨fun w2 h2 ht2 => ⟨h2.fail t e, (ht2.setCell (p := ⟨g, 3, none⟩) (.inl rfl) _).setCell (p := ⟨g, 4, none⟩) (.inl rfl) _⟩⟩
      by_cases ce : e = 0
      · have HA2 : Aside0 (askL (fun s => takeInts s most low high) [] F t = (n, F.mark t)) := ⟨HA.out.trans (if_pos ce)⟩
        have t2 : (e == 0) = true := by rw [ce]; rfl
        clear HA
        go_enter Tryd.func130, Tryd.ntmps130
        go_wp2_with (first | (go_at_call 102; refine HIs.out.mono ?_; rintro e w' ⟨rfl, hh⟩; obtain rfl : w = w' := hh.symm) | (go_at_call 101; refine HH.out.mono ?_; rintro e w' ⟨rfl, hh⟩; obtain rfl : w1 = w' := hh.symm) | (go_at_call 131; refine HC.out.mono ?_; rintro en w2 ⟨v, rfl, hRv, hb⟩; obtain ⟨A, c, rfl, hc, hC⟩ := Kd.R_reads hRv; have HRv := Aside0.mk (Kd.R_lower hRv HT.out.size); clear hRv hc hC; have HR2 := Aside0.mk (HR.out w2 hb); have hc32 := HR2.out.1.c3; have hc42 := HR2.out.1.c4; have hl32 := HR2.out.1.l3; have hl42 := HR2.out.1.l4; clear hb))
        go_ret
        rw [HA2.out]
        exact ⟨_, rfl, HRv.out, HR2.out.1, HR2.out.2⟩
      · have HA2 : Aside0 (askL (fun s => takeInts s most low high) [] F t = ([], (F.mark t).fail t e)) := ⟨HA.out.trans (if_neg ce)⟩
        have t2 : (e == 0) = false := by rw [beq_eq_false_iff_ne]; exact ce
        clear HA
        go_enter Tryd.func130, Tryd.ntmps130
        go_wp2_with (first | (go_at_call 102; refine HIs.out.mono ?_; rintro e w' ⟨rfl, hh⟩; obtain rfl : w = w' := hh.symm) | (go_at_call 101; refine HH.out.mono ?_; rintro e w' ⟨rfl, hh⟩; obtain rfl : w1 = w' := hh.symm) | (go_at_call 131; refine HC.out.mono ?_; rintro en w2 ⟨v, rfl, hRv, hb⟩; obtain ⟨A, c, rfl, hc, hC⟩ := Kd.R_reads hRv; have HRv := Aside0.mk (Kd.R_lower hRv HT.out.size); clear hRv hc hC; have HR2 := Aside0.mk (HR.out w2 hb); have hc32 := HR2.out.1.c3; have hc42 := HR2.out.1.c4; have hl32 := HR2.out.1.l3; have hl42 := HR2.out.1.l4; clear hb))
        go_ret
        rw [HA2.out]
        exact ⟨_, rfl, Kd.R_nil _ _ _ _ _, (HE.out w2 HR2.out.1 HR2.out.2).1, (HE.out w2 HR2.out.1 HR2.out.2).2⟩
  · have HA : Aside0 (askL (fun s => takeInts s most low high) [] F t = ([], F)) := ⟨askL_off _ _ _ _ he⟩
    have t1 : (F.e != 0) = true := by rw [bne_iff_ne]; exact he
    go_enter Tryd.func130, Tryd.ntmps130
    go_wp2_with (go_at_call 102; refine HIs.out.mono ?_; rintro e w' ⟨rfl, hh⟩; obtain rfl : w = w' := hh.symm)
    go_ret
    rw [HA.out]
    exact ⟨_, rfl, Kd.R_nil _ _ _ _ _, HF.out.mono (by omega), Turned.refl _ _⟩
set_option maxRecDepth 100000 in
set_option maxHeartbeats 4000000 in
theorem form_ints (g : Nat) (p : PlS) (F : FormS) (k : Nat) (w : World) (h : FormIs g p F k w) (hk : k < 9223372036854775807) (hv : ∀ x s, F.vals x = some s → s.size ≤ 512) (hT : ∀ X, Turned (FormB g p) w X → Tabs_ X) (t most low high : Int) (ht : i64ok t) (ha : p.a < w.heap.size) :
    Calls Tryd.prog 114 #[.pointer (some ⟨g, 0, none⟩), .int .i64 t, .int .i64 most, .int .i64 low, .int .i64 high] w fun e w' =>
      ∃ v, e = .returned v ∧ Kd.R (Kd.int .i64) 3 w' w.heap.size (fun _ => True) v (askL (fun s => takeInts s most low high) [] F t).1 ∧ FormIs g p (askL (fun s => takeInts s most low high) [] F t).2 (k + 1) w' ∧ Turned (FormB g p) w w' := by
  have hg := h.lt
  have HB : Aside0 (Below w.heap.size w (((w.alloc (.cells #[.int .i64 most] 3)).alloc (.cells #[.int .i64 low] 3)).alloc (.cells #[.int .i64 high] 3))) := ⟨(((Below.refl _ _).alloc (Nat.le_refl _) _).alloc (by simp) _).alloc (by simp; omega) _⟩
  have HF := Aside0.mk (h.below HB.out)
  have HAk := Aside0.mk (ask_ints g p F k _ HF.out hk hv (fun X hX => hT X ((Turned.of_below HB.out).trans hX)) t most low high ht w.heap.size (w.heap.size + 1) (w.heap.size + 1 + 1) (by simp [go_sem]) (by simp [go_sem]) (by simp [go_sem]) (fun e => by rcases e with e | e <;> omega) (fun e => by rcases e with e | e <;> omega) (fun e => by rcases e with e | e <;> omega))
  have hmf : ∀ (fn : Fn) (first cap : Array Value) (w : World), (Instr.makeFunc fn first cap).run Tryd.prog w = .ok (.func fn first cap) w := fun _ _ _ _ => rfl
  go_enter Tryd.func114, Tryd.ntmps114
  go_wp2_with (go_at_call 130; refine HAk.out.mono ?_; rintro e w' ⟨v, rfl, hRv, h1, h2⟩; obtain ⟨A, c, rfl, hc, hC⟩ := Kd.R_reads hRv; have HRv := Aside0.mk (Kd.R_lower hRv HB.out.size); clear hRv hc hC)
  go_ret
  exact ⟨_, rfl, HRv.out, h1, (Turned.of_below HB.out).trans h2⟩
end Go.Proofs.YtgfigkfcmkdjdaaDoor.B
end
