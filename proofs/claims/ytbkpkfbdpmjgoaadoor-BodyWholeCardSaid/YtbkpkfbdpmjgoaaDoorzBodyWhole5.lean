/- The functions that the law reaches, as plain Lean functions, and their contracts: texts merged. -/
import Derived.Laws.StructEq
import Derived.Test.YtbkpkfbdpmjgoaaDoorzBodyWhole2
import Derived.Test.YtbkpkfbdpmjgoaaDoorzBodyWhole0
import Derived.Test.YtbkpkfbdpmjgoaaDoorzBodyWhole1
import Derived.Test.YtbkpkfbdpmjgoaaDoorzBodyWhole3
import Derived.Test.YtbkpkfbdpmjgoaaDoorzBodyWhole4
section
namespace Go.Proofs.YtbkpkfbdpmjgoaaDoor.T
open Go.RowKit Go.Proofs.YtbkpkfbdpmjgoaaDoorW.PrintWords Go.Proofs.YtbkpkfbdpmjgoaaDoorW.PrintLast Go.Proofs.YtbkpkfbdpmjgoaaDoorW.PrintMore
attribute [local go_sem] max2_int min2_int max_two min_two max_three min_three max_four min_four   -- for this text's walks alone
set_option linter.unusedVariables false
set_option linter.unusedSimpArgs false
def pairF (x : S51) : Int × List UInt8 := (x.f0, x.f1.data.toList)
def smallF (l : List S51) : Bool := l.all fun x => decide (x.f1.size ≤ 9223372036854775807)
def tag_Forms.f (l0 : List S51) : Option (ByteArray × Int) := if smallF l0 = true then some (⟨(allFormsL (l0.map pairF)).1.toArray⟩, ((allFormsL (l0.map pairF)).2 : Int)) else none
def FormsIs (r : List UInt8 × Nat) (w : World) (e : Ending) (w' : World) : Prop := e = .returned (.tuple #[.string ⟨r.1.toArray⟩, .int .i64 (r.2 : Int)]) ∧ Below w.heap.size w w'
theorem FormsIs.mk_ {r : List UInt8 × Nat} {w w' : World} {b : ByteArray} {e : Nat} (h1 : b.data.toList = r.1) (h2 : e = r.2) (hw : Below w.heap.size w w') : FormsIs r w (.returned (.tuple #[.string b, .int .i64 (e : Int)])) w' := by
  subst h2; unfold FormsIs; rw [← h1]; exact ⟨rfl, hw⟩
theorem byteCells_append (a b : List UInt8) : Lib.byteCells (a ++ b) = Lib.byteCells a ++ Lib.byteCells b := by simp [Lib.byteCells]
theorem byteCells_len (a : List UInt8) : (Lib.byteCells a).length = a.length := by simp [Lib.byteCells]
theorem rdFF (l : List S51) (k : Nat) (h : k < l.length) : rd_T51 l (k : Int) = l[k] := by simp [rd_T51, h]
theorem BuilderAt.keep_ {T e : TypeId} {B b : Nat} {p : Value} {bs : List Value} {w w1 : World} {o : Obj} (h : Lib.BuilderAt T e B b p bs w) (hb : Below (w.alloc o).heap.size (w.alloc o) w1) : Lib.BuilderAt T e B b p bs w1 := by
  have hlt := h.lt
  obtain ⟨hB, v, hbk, hown, hne⟩ := h
  refine ⟨hB, v, ?_, ?_, hne⟩
  · rw [hb.block b (by rw [World.size_alloc]; omega), Below.heap_alloc _ _ _ hlt]; exact hbk
  · exact pw_own_below (own_alloc hown o) hb
set_option maxHeartbeats 4000000 in
set_option maxRecDepth 100000 in
theorem tag_Forms_walk (A0 : Option Addr) (c0 : Nat) (l0 : List S51) (w : World) (hT_ : Aside0 (Tabs_ w)) (hr0 : Kd.C k51 w A0 l0.length l0) (hc0 : l0.length ≤ c0) (hz : smallF l0 = true) :
    Calls Tryd.prog 20 #[.slice A0 l0.length c0] w (FormsIs (allFormsL (l0.map pairF)) w) := by
  have HR := Aside0.mk hr0
  clear hr0
  by_cases h64 : 64 < l0.length
  · have HF := Aside0.mk (show allFormsL (l0.map pairF) = ([], 3) by unfold allFormsL; rw [if_pos (by simpa using h64)])
    have t1 : decide ((64 : Int) < (l0.length : Int)) = true := by rw [decide_eq_true_eq]; omega
    have t2 : decide (64 < l0.length) = true := decide_eq_true h64
    clear hz
    go_enter Tryd.func20, Tryd.ntmps20
    go_wp2
    go_ret2
    rw [HF.out]
    exact FormsIs.mk_ (e := 3) rfl rfl (Below.refl _ _)
  · have HF := Aside0.mk (show allFormsL (l0.map pairF) = formsL (l0.map pairF) by unfold allFormsL; rw [if_neg (by simpa using h64)])
    have t1 : decide ((64 : Int) < (l0.length : Int)) = false := by rw [decide_eq_false_iff_not]; omega
    have t2 : decide (64 < l0.length) = false := decide_eq_false h64
    have HZ := Aside0.mk hz
    have hn64 : l0.length ≤ 64 := by omega
    clear hz h64
    go_enter Tryd.func20, Tryd.ntmps20
    go_wp2
    go_loopw [14] (fun v14 wr => ∃ (k : Nat) (acc : List UInt8), v14 = .int .i64 (k : Int) ∧ k ≤ l0.length ∧ Aside0 (acc.length ≤ 519 * k) ∧ Aside0 (Lib.IsBuilder 74 5 w.heap.size w.heap.size (Lib.byteCells acc) wr) ∧ Aside0 (Below w.heap.size w wr) ∧ Aside0 (formsAcc acc ((l0.map pairF).drop k) = formsL (l0.map pairF))) (fun v14 _ => l0.length - (intOf v14).toNat)
    case atStart => exact ⟨0, [], rfl, Nat.zero_le _, ⟨by simp⟩, ⟨Lib.fresh_isBuilder _ _ _⟩, ⟨(Below.refl _ _).alloc (Nat.le_refl _) _⟩, ⟨formsAcc_nil _⟩⟩
    case round =>
      obtain ⟨k, acc, rfl, hk, hacc, HB, HW, HA⟩ := hrel
      have hsz := HW.out.size
      by_cases hlt : k < l0.length
      · have t3 : decide (k < l0.length) = true := decide_eq_true hlt
        obtain ⟨ad, e144, hx0, hx1⟩ := at_T51 HR.out (k : Int) (by omega) (by omega)
        cases e144
        replace hx0 := (HW.out.cell (World.block_lt_of_cell? w _ hx0)).trans hx0
        replace hx1 := (HW.out.cell (World.block_lt_of_cell? w _ hx1)).trans hx1
        rw [rdFF l0 k hlt] at hx0 hx1
        rw [Int.toNat_natCast] at hx0 hx1
        have hsm : l0[k].f1.size ≤ 9223372036854775807 := by
          have := List.all_eq_true.1 HZ.out l0[k] (List.getElem_mem hlt); simpa using this
        have hdr : (l0.map pairF).drop k = pairF l0[k] :: (l0.map pairF).drop (k + 1) := by
          rw [List.drop_eq_getElem_cons (by simpa using hlt)]; simp
        rw [hdr] at HA
        have hcall : ∀ W, Aside0 (Tabs_ W) → Calls Tryd.prog 35 #[.agg #[.int .i64 l0[k].f0, .string l0[k].f1]] W fun e w' => e = .returned (.tuple #[.string ⟨(formL l0[k].f0 l0[k].f1.data.toList).1.toArray⟩, .int .i64 ((formL l0[k].f0 l0[k].f1.data.toList).2 : Int)]) ∧ Below W.heap.size W w' :=
          fun W hT => tag_Form.calls l0[k].f0 l0[k].f1 _ _ W hT (by unfold tag_Form.f; rw [if_pos hsm])
        have HC := Aside0.mk hcall
        clear hcall hdr hsm
        have hpf : pairF l0[k] = (l0[k].f0, l0[k].f1.data.toList) := rfl
        rw [hpf] at HA
        clear hpf
        have hfl := formL_len l0[k].f0 l0[k].f1.data.toList
        generalize l0[k].f0 = tg at *
        generalize l0[k].f1 = vl at *
        by_cases he : (formL tg vl.data.toList).2 = 0
        · have HA2 := Aside0.mk ((formsAcc_step acc (tg, vl.data.toList) _ he).symm.trans HA.out)
          have HE := Aside0.mk he
          clear HA he
          go_wp2_with (go_at_call 35; refine (HC.out _ ⟨hT_.out.below (HW.out.alloc hsz _)⟩).mono ?_; rintro e w1 ⟨rfl, hb1⟩; rw [HE.out]; have HB1 := Aside0.mk hb1; clear hb1)
          have HW1 := Aside0.mk ((HW.out.alloc hsz _).trans (HB1.out.mono (by rw [World.size_alloc]; omega)))
          have HBld := Aside0.mk (HB.out.imp (fun h => BuilderAt.keep_ h HB1.out) (fun h => BuilderAt.keep_ h HB1.out))
          clear HB HB1 HC
          have hsz1 := HW1.out.size
          generalize (formL tg vl.data.toList).1 = fl at *
          go_wp2_with (go_at_call 36; refine (Bld_WriteString w.heap.size w.heap.size (Lib.byteCells acc) ⟨fl.toArray⟩ _ HBld.out (by rw [byteCells_len, sz_lit]; have := hacc.out; omega) hsz1).mono ?_; rintro e w2 ⟨rfl, hb2, hb3⟩; have HB2 := Aside0.mk hb2; have HW2 := Aside0.mk hb3; clear hb2 hb3)
          go_roundw
          case rel => exact ⟨k + 1, acc ++ fl, by simp, by omega, ⟨by rw [List.length_append]; have := hacc.out; omega⟩, ⟨.inr (by rw [byteCells_append]; exact HB2.out)⟩, ⟨HW1.out.trans HW2.out⟩, HA2⟩
          case measure => simp [intOf]; omega
        · have HG := Aside0.mk ((formsAcc_bad acc (tg, vl.data.toList) _ he).symm.trans HA.out)
          have t4 : ((((formL tg vl.data.toList).2 : Nat) : Int) != 0) = true := by rw [bne_iff_ne]; omega
          clear HA he
          generalize (formL tg vl.data.toList).1 = fl at *
          generalize (formL tg vl.data.toList).2 = er at *
          go_wp2_with (go_at_call 35; refine (HC.out _ ⟨hT_.out.below (HW.out.alloc hsz _)⟩).mono ?_; rintro e w1 ⟨rfl, hb1⟩; have HB1 := Aside0.mk hb1; clear hb1)
          go_ret2
          rw [HF.out]
          exact FormsIs.mk_ (by rw [← HG.out]) (by rw [← HG.out]) ((HW.out.alloc hsz _).trans (HB1.out.mono (by rw [World.size_alloc]; omega)))
      · have t3 : decide (k < l0.length) = false := decide_eq_false hlt
        have HG := Aside0.mk (show (acc, 0) = formsL (l0.map pairF) by rw [← HA.out, List.drop_eq_nil_of_le (by simpa using hlt), formsAcc_end])
        clear HA
        go_wp2_with (go_at_call 37; refine (Tryd.Builder_String_any w.heap.size w.heap.size acc _ HB.out hsz).mono ?_; rintro e w1 ⟨rfl, hb1⟩; have HB1 := Aside0.mk hb1; clear hb1)
        go_ret2
        rw [HF.out]
        exact FormsIs.mk_ (e := 0) (by rw [← HG.out]) (by rw [← HG.out]) (HW.out.trans HB1.out)
theorem tag_Forms.calls (A0 : Option Addr) (c0 : Nat) (l0 : List S51) (r1 : ByteArray) (r2 : Int) (w : World) (hT_ : Aside0 (Tabs_ w)) (hr0 : Kd.C k51 w A0 l0.length l0) (hc0 : l0.length ≤ c0) (h : tag_Forms.f l0 = some (r1, r2)) :
    Calls Tryd.prog 20 #[.slice A0 l0.length c0] w fun e w' => e = .returned (.tuple #[.string r1, .int .i64 r2]) ∧ Below w.heap.size w w' := by
  unfold tag_Forms.f at h
  by_cases c : smallF l0 = true
  · rw [if_pos c] at h
    simp only [Option.some.injEq, Prod.mk.injEq] at h
    obtain ⟨rfl, rfl⟩ := h
    exact tag_Forms_walk A0 c0 l0 w hT_ hr0 hc0 c
  · rw [if_neg c] at h; cases h
end Go.Proofs.YtbkpkfbdpmjgoaaDoor.T
end
section
namespace Go.Proofs.YtbkpkfbdpmjgoaaDoor.T
open Go.RowKit Go.Proofs.YtbkpkfbdpmjgoaaDoorW.PrintWords Go.Proofs.YtbkpkfbdpmjgoaaDoorW.PrintLast Go.Proofs.YtbkpkfbdpmjgoaaDoorW.PrintMore
attribute [local go_sem] max2_int min2_int max_two min_two max_three min_three max_four min_four   -- for this text's walks alone
set_option linter.unusedVariables false
set_option linter.unusedSimpArgs false
def tag_number.f (a0 : ByteArray) : Option (Int × Int × Int) := if a0.size ≤ big then some (((numL a0.data.toList 0 0).1 : Int), ((numL a0.data.toList 0 0).2.1 : Int), ((numL a0.data.toList 0 0).2.2 : Int)) else none
theorem drop_cons (s : ByteArray) (pos : Nat) (h : pos < s.size) : s.data.toList.drop pos = s[pos]'h :: s.data.toList.drop (pos + 1) := by
  rw [List.drop_eq_getElem_cons (by rw [size_list]; exact h)]; rfl
theorem numL_sep (b : UInt8) (t : List UInt8) (i tg : Nat) (h : b.toNat = 61) (hi : 0 < i) : numL (b :: t) i tg = (tg, i + 1, 0) := by unfold numL; rw [if_pos ⟨h, hi⟩]
theorem numL_bad (b : UInt8) (t : List UInt8) (i tg : Nat) (h : ¬ (b.toNat = 61 ∧ 0 < i)) (h2 : ¬ isDig b ∨ (b.toNat = 48 ∧ i = 0)) : numL (b :: t) i tg = (0, 0, 80) := by unfold numL; rw [if_neg h, if_pos h2]
theorem numL_big (b : UInt8) (t : List UInt8) (i tg : Nat) (h : isDig b) (h2 : ¬ (b.toNat = 48 ∧ i = 0)) (h3 : 99999 < 10 * tg + (b.toNat - 48)) : numL (b :: t) i tg = (0, 0, 80) := by
  unfold numL; rw [if_neg (by unfold isDig at h; omega), if_neg (fun g => g.elim (fun g => g h) h2), if_pos h3]
theorem numL_go (b : UInt8) (t : List UInt8) (i tg : Nat) (h : isDig b) (h2 : ¬ (b.toNat = 48 ∧ i = 0)) (h3 : ¬ 99999 < 10 * tg + (b.toNat - 48)) : numL (b :: t) i tg = numL t (i + 1) (10 * tg + (b.toNat - 48)) := by
  conv => lhs; unfold numL
  rw [if_neg (by unfold isDig at h; omega), if_neg (fun g => g.elim (fun g => g h) h2), if_neg h3]
def NumIs (l : List UInt8) (w : World) (e : Ending) (w' : World) : Prop := e = .returned (.tuple #[.int .i64 ((numL l 0 0).1 : Int), .int .i64 ((numL l 0 0).2.1 : Int), .int .i64 ((numL l 0 0).2.2 : Int)]) ∧ Below w.heap.size w w'
theorem NumIs.mk_ {l : List UInt8} {w w' : World} {a b c : Nat} (h : (a, b, c) = numL l 0 0) (hw : Below w.heap.size w w') : NumIs l w (.returned (.tuple #[.int .i64 (a : Int), .int .i64 (b : Int), .int .i64 (c : Int)])) w' := by
  unfold NumIs; rw [← h]; exact ⟨rfl, hw⟩
set_option maxHeartbeats 1000000 in
theorem tag_number_walk (s : ByteArray) (w : World) (hs : s.size ≤ big) :
    Calls Tryd.prog 56 #[.string s] w (NumIs s.data.toList w) := by
  unfold big at hs
  go_enter Tryd.func56, Tryd.ntmps56
  go_wp2
  go_loopw [2] (fun t w' => ∃ pos tg : Nat, w' = w.iter s pos ∧ t = .int .i64 (tg : Int) ∧ pos ≤ s.size ∧ tg ≤ 99999 ∧ Aside0 (numL (s.data.toList.drop pos) pos tg = numL s.data.toList 0 0)) (fun _ w' => s.size - w'.iterPos w.heap.size)
  case atStart => exact ⟨0, 0, rfl, rfl, Nat.zero_le _, by omega, ⟨rfl⟩⟩
  case round =>
    obtain ⟨pos, tg, rfl, rfl, hpos, htg, hA⟩ := hrel
    have hBel : Aside0 (∀ p, Below w.heap.size w (w.iter s p)) := ⟨fun p => (Below.refl _ _).alloc (Nat.le_refl _) _⟩
    by_cases hp : pos < s.size
    · have hcons := drop_cons s pos hp
      by_cases ha : (s[pos]'hp).toNat < 128
      · have hnx : ∀ ty, (Instr.next (.pointer (some ⟨w.heap.size, 0, none⟩)) true ty).run Tryd.prog (w.iter s pos) = _ := fun ty => run_next_ascii w s pos ty hp ha
        rw [hcons] at hA
        clear hcons
        generalize s[pos]'hp = b at *
        have hb48 : isDig b ↔ 48 ≤ b.toNat ∧ b.toNat ≤ 57 := Iff.rfl
        generalize hN : b.toNat = n at *
        by_cases c1 : n = 61 ∧ 0 < pos
        · obtain ⟨rfl, c1⟩ := c1
          have HF := Aside0.mk (hA.out.symm.trans (numL_sep b _ pos tg hN c1))
          clear hA hb48 hN
          go_wp2
          go_ret3
          exact NumIs.mk_ (a := tg) (b := pos + 1) (c := 0) HF.out.symm (hBel.out _)
        · have hbad : ∀ (hb : ¬ isDig b ∨ (b.toNat = 48 ∧ pos = 0)), Aside0 (numL s.data.toList 0 0 = (0, 0, 80)) := fun hb => ⟨hA.out.symm.trans (numL_bad b _ pos tg (by rw [hN]; exact c1) hb)⟩
          by_cases c2 : n < 48
          · have HF := hbad (.inl (by rw [hb48]; omega))
            have t1 : ((n : Int) == 61) = false := by rw [beq_eq_false_iff_ne]; omega
            have t2 : decide ((n : Int) < 48) = true := by rw [decide_eq_true_eq]; omega
            clear hA hb48 hN hbad c1 c2
            go_wp2
            go_ret3
            exact NumIs.mk_ (a := 0) (b := 0) (c := 80) HF.out.symm (hBel.out _)
          by_cases c3 : 57 < n
          · have HF := hbad (.inl (by rw [hb48]; omega))
            have t2 : decide ((n : Int) < 48) = false := by rw [decide_eq_false_iff_not]; omega
            have t3 : decide ((57 : Int) < n) = true := by rw [decide_eq_true_eq]; omega
            by_cases c4 : n = 61
            · obtain rfl : pos = 0 := by omega
              subst c4
              clear hA hb48 hN hbad c1 c2 c3
              go_wp2
              go_ret3
              exact NumIs.mk_ (a := 0) (b := 0) (c := 80) HF.out.symm (hBel.out _)
            · have t1 : ((n : Int) == 61) = false := by rw [beq_eq_false_iff_ne]; omega
              clear hA hb48 hN hbad c1 c2 c3 c4
              go_wp2
              go_ret3
              exact NumIs.mk_ (a := 0) (b := 0) (c := 80) HF.out.symm (hBel.out _)
          have t1 : ((n : Int) == 61) = false := by rw [beq_eq_false_iff_ne]; omega
          have t2 : decide ((n : Int) < 48) = false := by rw [decide_eq_false_iff_not]; omega
          have t3 : decide ((57 : Int) < n) = false := by rw [decide_eq_false_iff_not]; omega
          by_cases c4 : n = 48 ∧ pos = 0
          · have HF := hbad (.inr (by rw [hN]; exact c4))
            obtain ⟨rfl, rfl⟩ := c4
            clear hA hb48 hN hbad c1 c2 c3
            go_wp2
            go_ret3
            exact NumIs.mk_ (a := 0) (b := 0) (c := 80) HF.out.symm (hBel.out _)
          have hgo := numL_go b (s.data.toList.drop (pos + 1)) pos tg (hb48.2 (by omega)) (by rw [hN]; exact c4)
          have hbg := numL_big b (s.data.toList.drop (pos + 1)) pos tg (hb48.2 (by omega)) (by rw [hN]; exact c4)
          rw [hN] at hgo hbg
          have g1 : 48 ≤ n := by omega
          have g2 : n ≤ 57 := by omega
          have hval : (10 * (tg : Int) + ((n : Int) - 48)) = ((10 * tg + (n - 48) : Nat) : Int) := by omega
          have HV := Aside0.mk hval
          clear hval
          have t4 : ((n : Int) == 48 && (pos : Int) == 0) = false := by
            rw [Bool.and_eq_false_iff, beq_eq_false_iff_ne, beq_eq_false_iff_ne]; omega
          by_cases c5 : 99999 < 10 * tg + (n - 48)
          · have HF := Aside0.mk (hA.out.symm.trans (hbg c5))
            have t5 : decide ((99999 : Int) < 10 * (tg : Int) + ((n : Int) - 48)) = true := by rw [decide_eq_true_eq]; omega
            have t6 : (n : Int) = 48 → ¬ (pos : Int) = 0 := by omega
            clear hA hb48 hN hbad c1 c2 c3 c4 hgo hbg c5
            by_cases c6 : n = 48
            · have t7 : ((pos : Int) == 0) = false := by rw [beq_eq_false_iff_ne]; omega
              subst c6
              have t8 : decide ((99999 : Int) < 10 * (tg : Int)) = true := by rw [decide_eq_true_eq] at t5 ⊢; omega
              clear t5 t6
              go_wp2
              go_ret3
              exact NumIs.mk_ (a := 0) (b := 0) (c := 80) HF.out.symm (hBel.out _)
            · have t7 : ((n : Int) == 48) = false := by rw [beq_eq_false_iff_ne]; omega
              clear t6
              go_wp2
              go_ret3
              exact NumIs.mk_ (a := 0) (b := 0) (c := 80) HF.out.symm (hBel.out _)
          · have HA2 := Aside0.mk ((hgo c5).symm.trans hA.out)
            have t5 : decide ((99999 : Int) < 10 * (tg : Int) + ((n : Int) - 48)) = false := by rw [decide_eq_false_iff_not]; omega
            have hb5 : 10 * tg + (n - 48) ≤ 99999 := by omega
            have HB5 := Aside0.mk hb5
            have t6 : (n : Int) = 48 → ¬ (pos : Int) = 0 := by omega
            clear hA hb48 hN hbad c1 c2 c3 c4 hgo hbg c5 hb5
            by_cases c6 : n = 48
            · have t7 : ((pos : Int) == 0) = false := by rw [beq_eq_false_iff_ne]; omega
              subst c6
              have t8 : decide ((99999 : Int) < 10 * (tg : Int)) = false := by rw [decide_eq_false_iff_not] at t5 ⊢; omega
              clear t5 t6
              go_wp2
              go_roundw
              case rel => exact ⟨pos + 1, 10 * tg + (48 - 48), rfl, by have := HV.out; simp only [Value.int.injEq, true_and]; omega, hp, HB5.out, HA2⟩
              case measure => simp; omega
            · have t7 : ((n : Int) == 48) = false := by rw [beq_eq_false_iff_ne]; omega
              clear t6
              go_wp2
              go_roundw
              case rel => exact ⟨pos + 1, 10 * tg + (n - 48), rfl, by have := HV.out; simp only [Value.int.injEq, true_and]; omega, hp, HB5.out, HA2⟩
              case measure => simp; omega
      · have hnx : ∀ ty, (Instr.next (.pointer (some ⟨w.heap.size, 0, none⟩)) true ty).run Tryd.prog (w.iter s pos) = _ := fun ty => run_next_any w s pos ty hp
        have hh := (decode_high s pos hp (by omega)).1
        have hle := decode_le s pos
        rw [hcons] at hA
        have HF := Aside0.mk (hA.out.symm.trans (numL_bad (s[pos]'hp) _ pos tg (by omega) (.inl (by unfold isDig; omega))))
        clear hA hcons ha
        generalize (Utf8.decode s pos).1 = r at *
        generalize (Utf8.decode s pos).2 = wd at *
        have t1 : ((r : Int) == 61) = false := by rw [beq_eq_false_iff_ne]; omega
        have t2 : decide ((r : Int) < 48) = false := by rw [decide_eq_false_iff_not]; omega
        have t3 : decide ((57 : Int) < r) = true := by rw [decide_eq_true_eq]; omega
        go_wp2
        go_ret3
        exact NumIs.mk_ (a := 0) (b := 0) (c := 80) HF.out.symm (hBel.out _)
    · have hnx : ∀ ty, (Instr.next (.pointer (some ⟨w.heap.size, 0, none⟩)) true ty).run Tryd.prog (w.iter s pos) = _ := fun ty => run_next_end w s pos ty hp
      have HF := Aside0.mk ((show numL (s.data.toList.drop pos) pos tg = (0, 0, 82) by rw [List.drop_eq_nil_of_le (by rw [size_list]; omega)]; rfl).symm.trans hA.out)
      clear hA
      go_wp2
      go_ret3
      exact NumIs.mk_ (a := 0) (b := 0) (c := 82) HF.out (hBel.out _)
theorem tag_number.calls (a0 : ByteArray) (r1 r2 r3 : Int) (w : World) (h : tag_number.f a0 = some (r1, r2, r3)) :
    Calls Tryd.prog 56 #[.string a0] w fun e w' => e = .returned (.tuple #[.int .i64 r1, .int .i64 r2, .int .i64 r3]) ∧ Below w.heap.size w w' := by
  unfold tag_number.f at h
  by_cases c : a0.size ≤ big
  · rw [if_pos c] at h
    simp only [Option.some.injEq, Prod.mk.injEq] at h
    obtain ⟨rfl, rfl, rfl⟩ := h
    exact tag_number_walk a0 w c
  · rw [if_neg c] at h; cases h
end Go.Proofs.YtbkpkfbdpmjgoaaDoor.T
end
section
namespace Go.Proofs.YtbkpkfbdpmjgoaaDoor.T
open Go.RowKit Go.Proofs.YtbkpkfbdpmjgoaaDoorW.PrintWords Go.Proofs.YtbkpkfbdpmjgoaaDoorW.PrintLast Go.Proofs.YtbkpkfbdpmjgoaaDoorW.PrintMore
attribute [local go_sem] max2_int min2_int max_two min_two max_three min_three max_four min_four   -- for this text's walks alone
set_option linter.unusedVariables false
set_option linter.unusedSimpArgs false
def tag_text.f (a0 : ByteArray) : Option (ByteArray × Int) := if a0.size ≤ big then some (if (textL a0.data.toList 0).2 = 0 then a0.extract 0 (textL a0.data.toList 0).1 else ⟨#[]⟩, ((textL a0.data.toList 0).2 : Int)) else none
def TextIs (s : ByteArray) (w : World) (e : Ending) (w' : World) : Prop := e = .returned (.tuple #[.string (if (textL s.data.toList 0).2 = 0 then s.extract 0 (textL s.data.toList 0).1 else ⟨#[]⟩), .int .i64 ((textL s.data.toList 0).2 : Int)]) ∧ Below w.heap.size w w'
theorem TextIs.ok {s : ByteArray} {w w' : World} {p : Nat} {t : ByteArray} (h : (p, 0) = textL s.data.toList 0) (ht : t = s.extract 0 p) (hw : Below w.heap.size w w') : TextIs s w (.returned (.tuple #[.string t, .int .i64 0])) w' := by
  subst ht; unfold TextIs; rw [← h]; exact ⟨rfl, hw⟩
theorem TextIs.no {s : ByteArray} {w w' : World} {p e : Nat} (h : (p, e) = textL s.data.toList 0) (he : e ≠ 0) (hw : Below w.heap.size w w') : TextIs s w (.returned (.tuple #[.string ⟨#[]⟩, .int .i64 (e : Int)])) w' := by
  unfold TextIs; rw [← h]; simp only; rw [if_neg he]; exact ⟨rfl, hw⟩
set_option maxHeartbeats 1000000 in
theorem tag_text_walk (s : ByteArray) (w : World) (hs : s.size ≤ big) :
    Calls Tryd.prog 57 #[.string s] w (TextIs s w) := by
  unfold big at hs
  have HB : Aside0 (∀ p, Below w.heap.size w (w.iter s p)) := ⟨fun p => (Below.refl _ _).alloc (Nat.le_refl _) _⟩
  go_enter Tryd.func57, Tryd.ntmps57
  go_wp2
  go_step3
  go_wp2
  go_step3
  go_wp2
  go_loopw [4, 5] (fun e4 v5 w' => ∃ pos at_ : Nat, w' = w.iter s pos ∧ e4 = .int .i64 82 ∧ v5 = .int .i64 (at_ : Int) ∧ pos ≤ s.size ∧ Aside0 (textL (s.data.toList.drop pos) pos = textL s.data.toList 0)) (fun _ _ w' => s.size - w'.iterPos w.heap.size)
  case atStart => exact ⟨0, 0, rfl, rfl, rfl, Nat.zero_le _, ⟨rfl⟩⟩
  case round =>
    obtain ⟨pos, at_, rfl, rfl, rfl, hpos, hA⟩ := hrel
    by_cases hp : pos < s.size
    · have hnx : ∀ ty, (Instr.next (.pointer (some ⟨w.heap.size, 0, none⟩)) true ty).run Tryd.prog (w.iter s pos) = _ := fun ty => run_next_any w s pos ty hp
      have hle := decode_le s pos
      have hne := drop_ne_nil s pos hp
      have hst := hA.out
      have hwd := dec_width (s.data.toList.drop pos)
      have hwl := dec_width_le _ hne
      have hw4 := dec_width4 (s.data.toList.drop pos)
      have hen := dec_encode_size (s.data.toList.drop pos) hne
      rw [textL_cons _ hne, dec_drop, List.drop_drop] at hst
      rw [dec_drop] at hwd hwl hw4 hen
      rw [List.length_drop, size_list] at hwl
      clear hA
      generalize (Utf8.decode s pos).1 = r at *
      generalize (Utf8.decode s pos).2 = wd at *
      by_cases c1 : r = 1 ∧ 0 < pos
      · rw [if_pos c1] at hst
        have HS := Aside0.mk hst
        obtain ⟨rfl, c1⟩ := c1
        clear hst hen hle
        go_wp2
        go_ret2
        exact TextIs.ok HS.out (by simp) (HB.out _)
      · rw [if_neg c1] at hst
        have HM : Aside0 (∀ w, Calls Tryd.prog 53 #[.int .i32 (r : Int)] w fun e w' => e = .returned (.bool (mayB r)) ∧ w = w') := ⟨fun w => tag_may_same r hle w⟩
        cases hm : mayB r with
        | false =>
          rw [hm] at hst HM
          rw [if_neg (by simp)] at hst
          have HS := Aside0.mk hst
          clear hst hm hen hle
          by_cases c2 : r = 1
          · obtain rfl : pos = 0 := by omega
            subst c2
            clear c1
            go_wp2_with (go_at_call 53; refine (HM.out _).mono ?_; rintro e w1 ⟨rfl, rfl⟩)
            go_ret2
            exact TextIs.no HS.out (by decide) (HB.out _)
          · have t1 : ((r : Int) == 1) = false := by rw [beq_eq_false_iff_ne]; omega
            clear c1 c2
            go_wp2_with (go_at_call 53; refine (HM.out _).mono ?_; rintro e w1 ⟨rfl, rfl⟩)
            go_ret2
            exact TextIs.no HS.out (by decide) (HB.out _)
        | true =>
          rw [hm] at hst HM
          have hm2 := (mayB_eq r).1 hm
          have hsz := hen (by omega)
          have t1 : ((r : Int) == 1) = false := by rw [beq_eq_false_iff_ne]; omega
          clear hm hen c1 hle
          by_cases c3 : pos + wd ≤ 512
          · rw [if_pos ⟨rfl, c3⟩] at hst
            have HS := Aside0.mk hst
            have t2 : decide ((512 : Int) < (pos : Int) + (wd : Int)) = false := by rw [decide_eq_false_iff_not]; omega
            clear hst
            go_wp2_with (go_at_call 53; refine (HM.out _).mono ?_; rintro e w1 ⟨rfl, rfl⟩)
            go_roundw
            case rel => exact ⟨pos + wd, pos, rfl, rfl, rfl, by omega, HS⟩
            case measure => simp; omega
          · rw [if_neg (by simp [c3])] at hst
            have HS := Aside0.mk hst
            have t2 : decide ((512 : Int) < (pos : Int) + (wd : Int)) = true := by rw [decide_eq_true_eq]; omega
            clear hst
            go_wp2_with (go_at_call 53; refine (HM.out _).mono ?_; rintro e w1 ⟨rfl, rfl⟩)
            go_ret2
            exact TextIs.no HS.out (by decide) (HB.out _)
    · have hnx : ∀ ty, (Instr.next (.pointer (some ⟨w.heap.size, 0, none⟩)) true ty).run Tryd.prog (w.iter s pos) = _ := fun ty => run_next_end w s pos ty hp
      have HS := Aside0.mk (show (0, 82) = textL s.data.toList 0 by rw [← hA.out, drop_nil_of s pos hp, textL_nil])
      clear hA
      go_wp2
      go_ret2
      exact TextIs.no HS.out (by decide) (HB.out _)
theorem tag_text.calls (a0 : ByteArray) (r1 : ByteArray) (r2 : Int) (w : World) (h : tag_text.f a0 = some (r1, r2)) :
    Calls Tryd.prog 57 #[.string a0] w fun e w' => e = .returned (.tuple #[.string r1, .int .i64 r2]) ∧ Below w.heap.size w w' := by
  unfold tag_text.f at h
  by_cases c : a0.size ≤ big
  · rw [if_pos c] at h
    simp only [Option.some.injEq, Prod.mk.injEq] at h
    obtain ⟨rfl, rfl⟩ := h
    exact tag_text_walk a0 w c
  · rw [if_neg c] at h; cases h
end Go.Proofs.YtbkpkfbdpmjgoaaDoor.T
end
section
namespace Go.Proofs.YtbkpkfbdpmjgoaaDoor.T
open Go.RowKit Go.Proofs.YtbkpkfbdpmjgoaaDoorW.PrintWords Go.Proofs.YtbkpkfbdpmjgoaaDoorW.PrintLast Go.Proofs.YtbkpkfbdpmjgoaaDoorW.PrintMore
attribute [local go_sem] max2_int min2_int max_two min_two max_three min_three max_four min_four   -- for this text's walks alone
set_option linter.unusedVariables false
set_option linter.unusedSimpArgs false
def tag_Next_p.f (a0 : ByteArray) : Option (Int × ByteArray × Int × Int) := (tag_number.f a0).bind fun bt105 => (if bt105.2.2 = 0 then (if 0 ≤ bt105.2.1 then (if bt105.2.1 ≤ (a0.size : Int) then ((tag_text.f (a0.extract (bt105.2.1 : Int).toNat a0.size)).bind fun bt108 => (if bt108.2 = 0 then (some (bt105.1, bt108.1, wrap64 ((wrap64 (bt105.2.1 + (bt108.1.size : Int))) + 1), 0)) else (some (0, (⟨#[]⟩ : ByteArray), 0, bt108.2)))) else (none)) else (none)) else (some (0, (⟨#[]⟩ : ByteArray), 0, bt105.2.2)))
set_option maxHeartbeats 8000000 in
set_option maxRecDepth 100000 in
theorem tag_Next_p.calls (a0 : ByteArray) (r1 : Int) (r2 : ByteArray) (r3 : Int) (r4 : Int) (w : World) (h : tag_Next_p.f a0 = some (r1, r2, r3, r4)) :
    Calls Tryd.prog 47 #[.string a0] w fun e w' => e = .returned (.tuple #[.agg #[.int .i64 r1, .string r2], .int .i64 r3, .int .i64 r4]) ∧ Below w.heap.size w w' := by
  have hu51 := Tryd.underlying51
  have HB := Aside0.mk (Below.refl w.heap.size w)
  have H : ((tag_number.f a0).bind fun bt105 => (if bt105.2.2 = 0 then (if 0 ≤ bt105.2.1 then (if bt105.2.1 ≤ (a0.size : Int) then ((tag_text.f (a0.extract (bt105.2.1 : Int).toNat a0.size)).bind fun bt108 => (if bt108.2 = 0 then (some (bt105.1, bt108.1, wrap64 ((wrap64 (bt105.2.1 + (bt108.1.size : Int))) + 1), 0)) else (some (0, (⟨#[]⟩ : ByteArray), 0, bt108.2)))) else (none)) else (none)) else (some (0, (⟨#[]⟩ : ByteArray), 0, bt105.2.2)))) = some (r1, r2, r3, r4) := h
  clear h
  replace H := Option.bind_eq_some_iff.mp H
  obtain ⟨⟨t105, t106, t107⟩, A20, H⟩ := H
  replace H : (if t107 = 0 then (if 0 ≤ t106 then (if t106 ≤ (a0.size : Int) then ((tag_text.f (a0.extract (t106 : Int).toNat a0.size)).bind fun bt108 => (if bt108.2 = 0 then (some (t105, bt108.1, wrap64 ((wrap64 (t106 + (bt108.1.size : Int))) + 1), 0)) else (some (0, (⟨#[]⟩ : ByteArray), 0, bt108.2)))) else (none)) else (none)) else (some (0, (⟨#[]⟩ : ByteArray), 0, t107))) = some (r1, r2, r3, r4) := H
  have A2 := Aside0.mk A20
  clear A20
  by_cases c3 : t107 = 0
  · rw [if_pos c3] at H
    have c3b0 : (t107 == 0) = true := beq_iff_eq.mpr c3
    have c3b1 : (t107 != 0) = false := bne_eq_false_iff_eq.mpr c3
    clear c3
    by_cases c4 : 0 ≤ t106
    · rw [if_pos c4] at H
      have c4b0 := eq_true c4
      have c4b1 : decide (0 ≤ t106) = true := decide_eq_true c4
      clear c4
      by_cases c5 : t106 ≤ (a0.size : Int)
      · rw [if_pos c5] at H
        have c5b0 := eq_true c5
        have c5b1 : decide (t106 ≤ (a0.size : Int)) = true := decide_eq_true c5
        clear c5
        replace H := Option.bind_eq_some_iff.mp H
        obtain ⟨⟨t108, t109⟩, A60, H⟩ := H
        replace H : (if t109 = 0 then (some (t105, t108, wrap64 ((wrap64 (t106 + (t108.size : Int))) + 1), 0)) else (some (0, (⟨#[]⟩ : ByteArray), 0, t109))) = some (r1, r2, r3, r4) := H
        have A6 := Aside0.mk A60
        clear A60
        by_cases c7 : t109 = 0
        · rw [if_pos c7] at H
          have c7b0 : (t109 == 0) = true := beq_iff_eq.mpr c7
          have c7b1 : (t109 != 0) = false := bne_eq_false_iff_eq.mpr c7
          clear c7
          simp only [Option.some.injEq, Prod.mk.injEq] at H
          obtain ⟨rfl, rfl, rfl, rfl⟩ := H
          go_enter Tryd.func47, Tryd.ntmps47
          go_wp2_with (first | ((with_reducible refine gate_dst (N := 2) rfl ?_); refine box_event ?hg (N := 2) ?hd (cs := #[.int .i64 0, .string (⟨#[]⟩ : ByteArray)]) (t := 51) ?hr ?_; (case hd => rfl); (case hg => rfl); (case hr => first | (go_simp; done) | (go_simp; rfl)); intro gb104 hg w8 hbox hb; have n0_ := Aside0.mk (below_step (by repeat (first | (with_reducible first | exact HB.out | apply below_alloc | apply pw_below_drewN | apply below_drew1) | exact HB.out)) hb); have n1_ := Aside0.mk (hbox); have n2_ := Aside0.mk ((by rw [hg]; exact (below_size (by repeat (first | (with_reducible first | exact HB.out | apply below_alloc | apply pw_below_drewN | apply below_drew1) | exact HB.out))) : w.heap.size ≤ gb104)); have n3_ := Aside0.mk ((by rw [hg]; exact (below_size (by repeat (first | (with_reducible first | exact HB.out | apply below_alloc | apply pw_below_drewN | apply below_drew1) | exact HB.out))) : w.heap.size ≤ gb104)); clear HB; have HB := n0_; have BK104 := n1_; have GW104 := n2_; have GE104 := n3_; clear n0_ n1_ n2_ n3_; clear hb hbox hg) | ((with_reducible refine gate_callee (f := 56) rfl ?_); refine goesL_ (some 9) rfl rfl Tryd.func56 (by kernel_rfl) rfl #[.string a0] rfl (by (try simp only [List.map_toArray, List.map_cons, List.map_nil]); first | done | rfl | (simp only [List.length_drop, List.length_take]; rfl)) ?_; (with_reducible refine (tag_number.calls a0 t105 t106 t107 _ A2.out).mono ?_); rintro e w9 ⟨rfl, hb⟩; refine ⟨_, rfl, ?_⟩; have n0_ := Aside0.mk (blk_below (g := gb104) (o := .cells #[.int .i64 0, .string (⟨#[]⟩ : ByteArray)] 51 (0, 0)) (by (with_reducible repeat (first | refine blk_drewN ?_ _ | refine blk_drew ?_ | refine blk_alloc ?_ _)); exact BK104.out) hb); have n1_ := Aside0.mk (below_step (by repeat (first | (with_reducible first | exact HB.out | apply below_alloc | apply pw_below_drewN | apply below_drew1 | refine below_set ?_ GE104.out) | exact HB.out)) hb); clear BK104; clear HB; have BK104 := n0_; have HB := n1_; clear n0_ n1_; (try clear hb); (try clear hb2); (try clear hk); (try clear hi)) | ((with_reducible refine gate_callee (f := 57) rfl ?_); refine goesL_ (some 21) rfl rfl Tryd.func57 (by kernel_rfl) rfl #[.string (a0.extract (t106 : Int).toNat a0.size)] rfl (by (try simp only [List.map_toArray, List.map_cons, List.map_nil]); first | done | rfl | (simp only [List.length_drop, List.length_take]; rfl)) ?_; (with_reducible refine (tag_text.calls (a0.extract (t106 : Int).toNat a0.size) t108 t109 _ A6.out).mono ?_); rintro e w10 ⟨rfl, hb⟩; refine ⟨_, rfl, ?_⟩; have n0_ := Aside0.mk (blk_below (g := gb104) (o := .cells #[.int .i64 0, .string (⟨#[]⟩ : ByteArray)] 51 (0, 0)) (by (with_reducible repeat (first | refine blk_drewN ?_ _ | refine blk_drew ?_ | refine blk_alloc ?_ _)); exact BK104.out) hb); have n1_ := Aside0.mk (below_step (by repeat (first | (with_reducible first | exact HB.out | apply below_alloc | apply pw_below_drewN | apply below_drew1 | refine below_set ?_ GE104.out) | exact HB.out)) hb); clear BK104; clear HB; have BK104 := n0_; have HB := n1_; clear n0_ n1_; (try clear hb); (try clear hb2); (try clear hk); (try clear hi); have hcz11_0 : w10.cell? ⟨gb104, 0, none⟩ = some (.int .i64 0) := (blk_cell BK104.out 0).trans rfl; have hcz11_1 : w10.cell? ⟨gb104, 1, none⟩ = some (.string (⟨#[]⟩ : ByteArray)) := (blk_cell BK104.out 1).trans rfl; have hfz11_0 := blk_frozen BK104.out 0; have hfz11_1 := blk_frozen BK104.out 1))
          refine bodyPost_ret (results_ctt rfl _ _ gb104 51 #[.int .i64 t105, .string t108] (0, 0) _ rfl (by (with_reducible repeat (first | refine blk_drewN ?_ _ | refine blk_drew ?_ | refine blk_alloc ?_ _)); refine blk_put (cs := #[.int .i64 t105, .string (⟨#[]⟩ : ByteArray)]) ?_ 1 _ rfl; (with_reducible repeat (first | refine blk_drewN ?_ _ | refine blk_drew ?_ | refine blk_alloc ?_ _)); refine blk_put (cs := #[.int .i64 0, .string (⟨#[]⟩ : ByteArray)]) ?_ 0 _ rfl; (with_reducible repeat (first | refine blk_drewN ?_ _ | refine blk_drew ?_ | refine blk_alloc ?_ _)); exact BK104.out) Tryd.underlying51 rfl (by kernel_rfl)) rfl ?_
          exact ⟨by first | rfl | (simp [errW_none, errW_some] <;> rfl) | (simp [*, errW_none, errW_some] <;> rfl), by repeat (first | (with_reducible first | exact HB.out | apply below_alloc | apply pw_below_drewN | apply below_drew1 | refine below_set ?_ GE104.out) | exact HB.out)⟩
        · rw [if_neg c7] at H
          have c7b0 : (t109 == 0) = false := beq_eq_false_iff_ne.mpr c7
          have c7b1 : (t109 != 0) = true := bne_iff_ne.mpr c7
          simp only [Option.some.injEq, Prod.mk.injEq] at H
          obtain ⟨rfl, rfl, rfl, rfl⟩ := H
          go_enter Tryd.func47, Tryd.ntmps47
          go_wp2_with (first | ((with_reducible refine gate_dst (N := 2) rfl ?_); refine box_event ?hg (N := 2) ?hd (cs := #[.int .i64 0, .string (⟨#[]⟩ : ByteArray)]) (t := 51) ?hr ?_; (case hd => rfl); (case hg => rfl); (case hr => first | (go_simp; done) | (go_simp; rfl)); intro gb104 hg w12 hbox hb; have n0_ := Aside0.mk (below_step (by repeat (first | (with_reducible first | exact HB.out | apply below_alloc | apply pw_below_drewN | apply below_drew1) | exact HB.out)) hb); have n1_ := Aside0.mk (hbox); have n2_ := Aside0.mk ((by rw [hg]; exact (below_size (by repeat (first | (with_reducible first | exact HB.out | apply below_alloc | apply pw_below_drewN | apply below_drew1) | exact HB.out))) : w.heap.size ≤ gb104)); have n3_ := Aside0.mk ((by rw [hg]; exact (below_size (by repeat (first | (with_reducible first | exact HB.out | apply below_alloc | apply pw_below_drewN | apply below_drew1) | exact HB.out))) : w.heap.size ≤ gb104)); clear HB; have HB := n0_; have BK104 := n1_; have GW104 := n2_; have GE104 := n3_; clear n0_ n1_ n2_ n3_; clear hb hbox hg) | ((with_reducible refine gate_callee (f := 56) rfl ?_); refine goesL_ (some 9) rfl rfl Tryd.func56 (by kernel_rfl) rfl #[.string a0] rfl (by (try simp only [List.map_toArray, List.map_cons, List.map_nil]); first | done | rfl | (simp only [List.length_drop, List.length_take]; rfl)) ?_; (with_reducible refine (tag_number.calls a0 t105 t106 t107 _ A2.out).mono ?_); rintro e w13 ⟨rfl, hb⟩; refine ⟨_, rfl, ?_⟩; have n0_ := Aside0.mk (blk_below (g := gb104) (o := .cells #[.int .i64 0, .string (⟨#[]⟩ : ByteArray)] 51 (0, 0)) (by (with_reducible repeat (first | refine blk_drewN ?_ _ | refine blk_drew ?_ | refine blk_alloc ?_ _)); exact BK104.out) hb); have n1_ := Aside0.mk (below_step (by repeat (first | (with_reducible first | exact HB.out | apply below_alloc | apply pw_below_drewN | apply below_drew1 | refine below_set ?_ GE104.out) | exact HB.out)) hb); clear BK104; clear HB; have BK104 := n0_; have HB := n1_; clear n0_ n1_; (try clear hb); (try clear hb2); (try clear hk); (try clear hi)) | ((with_reducible refine gate_callee (f := 57) rfl ?_); refine goesL_ (some 21) rfl rfl Tryd.func57 (by kernel_rfl) rfl #[.string (a0.extract (t106 : Int).toNat a0.size)] rfl (by (try simp only [List.map_toArray, List.map_cons, List.map_nil]); first | done | rfl | (simp only [List.length_drop, List.length_take]; rfl)) ?_; (with_reducible refine (tag_text.calls (a0.extract (t106 : Int).toNat a0.size) t108 t109 _ A6.out).mono ?_); rintro e w14 ⟨rfl, hb⟩; refine ⟨_, rfl, ?_⟩; have n0_ := Aside0.mk (blk_below (g := gb104) (o := .cells #[.int .i64 0, .string (⟨#[]⟩ : ByteArray)] 51 (0, 0)) (by (with_reducible repeat (first | refine blk_drewN ?_ _ | refine blk_drew ?_ | refine blk_alloc ?_ _)); exact BK104.out) hb); have n1_ := Aside0.mk (below_step (by repeat (first | (with_reducible first | exact HB.out | apply below_alloc | apply pw_below_drewN | apply below_drew1 | refine below_set ?_ GE104.out) | exact HB.out)) hb); clear BK104; clear HB; have BK104 := n0_; have HB := n1_; clear n0_ n1_; (try clear hb); (try clear hb2); (try clear hk); (try clear hi); have hcz15_0 : w14.cell? ⟨gb104, 0, none⟩ = some (.int .i64 0) := (blk_cell BK104.out 0).trans rfl; have hcz15_1 : w14.cell? ⟨gb104, 1, none⟩ = some (.string (⟨#[]⟩ : ByteArray)) := (blk_cell BK104.out 1).trans rfl; have hfz15_0 := blk_frozen BK104.out 0; have hfz15_1 := blk_frozen BK104.out 1))
          refine bodyPost_ret (results_ctt rfl _ _ gb104 51 #[.int .i64 0, .string (⟨#[]⟩ : ByteArray)] (0, 0) _ rfl (by (with_reducible repeat (first | refine blk_drewN ?_ _ | refine blk_drew ?_ | refine blk_alloc ?_ _)); refine blk_put (cs := #[.int .i64 0, .string (⟨#[]⟩ : ByteArray)]) ?_ 1 _ rfl; (with_reducible repeat (first | refine blk_drewN ?_ _ | refine blk_drew ?_ | refine blk_alloc ?_ _)); refine blk_put (cs := #[.int .i64 0, .string (⟨#[]⟩ : ByteArray)]) ?_ 0 _ rfl; (with_reducible repeat (first | refine blk_drewN ?_ _ | refine blk_drew ?_ | refine blk_alloc ?_ _)); exact BK104.out) Tryd.underlying51 rfl (by kernel_rfl)) rfl ?_
          exact ⟨by first | rfl | (simp [errW_none, errW_some] <;> rfl) | (simp [*, errW_none, errW_some] <;> rfl), by repeat (first | (with_reducible first | exact HB.out | apply below_alloc | apply pw_below_drewN | apply below_drew1 | refine below_set ?_ GE104.out) | exact HB.out)⟩
      · rw [if_neg c5] at H
        exact absurd H (by simp)
    · rw [if_neg c4] at H
      exact absurd H (by simp)
  · rw [if_neg c3] at H
    have c3b0 : (t107 == 0) = false := beq_eq_false_iff_ne.mpr c3
    have c3b1 : (t107 != 0) = true := bne_iff_ne.mpr c3
    simp only [Option.some.injEq, Prod.mk.injEq] at H
    obtain ⟨rfl, rfl, rfl, rfl⟩ := H
    go_enter Tryd.func47, Tryd.ntmps47
    go_wp2_with (first | ((with_reducible refine gate_dst (N := 2) rfl ?_); refine box_event ?hg (N := 2) ?hd (cs := #[.int .i64 0, .string (⟨#[]⟩ : ByteArray)]) (t := 51) ?hr ?_; (case hd => rfl); (case hg => rfl); (case hr => first | (go_simp; done) | (go_simp; rfl)); intro gb104 hg w16 hbox hb; have n0_ := Aside0.mk (below_step (by repeat (first | (with_reducible first | exact HB.out | apply below_alloc | apply pw_below_drewN | apply below_drew1) | exact HB.out)) hb); have n1_ := Aside0.mk (hbox); have n2_ := Aside0.mk ((by rw [hg]; exact (below_size (by repeat (first | (with_reducible first | exact HB.out | apply below_alloc | apply pw_below_drewN | apply below_drew1) | exact HB.out))) : w.heap.size ≤ gb104)); have n3_ := Aside0.mk ((by rw [hg]; exact (below_size (by repeat (first | (with_reducible first | exact HB.out | apply below_alloc | apply pw_below_drewN | apply below_drew1) | exact HB.out))) : w.heap.size ≤ gb104)); clear HB; have HB := n0_; have BK104 := n1_; have GW104 := n2_; have GE104 := n3_; clear n0_ n1_ n2_ n3_; clear hb hbox hg) | ((with_reducible refine gate_callee (f := 56) rfl ?_); refine goesL_ (some 9) rfl rfl Tryd.func56 (by kernel_rfl) rfl #[.string a0] rfl (by (try simp only [List.map_toArray, List.map_cons, List.map_nil]); first | done | rfl | (simp only [List.length_drop, List.length_take]; rfl)) ?_; (with_reducible refine (tag_number.calls a0 t105 t106 t107 _ A2.out).mono ?_); rintro e w17 ⟨rfl, hb⟩; refine ⟨_, rfl, ?_⟩; have n0_ := Aside0.mk (blk_below (g := gb104) (o := .cells #[.int .i64 0, .string (⟨#[]⟩ : ByteArray)] 51 (0, 0)) (by (with_reducible repeat (first | refine blk_drewN ?_ _ | refine blk_drew ?_ | refine blk_alloc ?_ _)); exact BK104.out) hb); have n1_ := Aside0.mk (below_step (by repeat (first | (with_reducible first | exact HB.out | apply below_alloc | apply pw_below_drewN | apply below_drew1 | refine below_set ?_ GE104.out) | exact HB.out)) hb); clear BK104; clear HB; have BK104 := n0_; have HB := n1_; clear n0_ n1_; (try clear hb); (try clear hb2); (try clear hk); (try clear hi); have hcz18_0 : w17.cell? ⟨gb104, 0, none⟩ = some (.int .i64 0) := (blk_cell BK104.out 0).trans rfl; have hcz18_1 : w17.cell? ⟨gb104, 1, none⟩ = some (.string (⟨#[]⟩ : ByteArray)) := (blk_cell BK104.out 1).trans rfl; have hfz18_0 := blk_frozen BK104.out 0; have hfz18_1 := blk_frozen BK104.out 1))
    refine bodyPost_ret (results_ctt rfl _ _ gb104 51 #[.int .i64 0, .string (⟨#[]⟩ : ByteArray)] (0, 0) _ rfl (by (with_reducible repeat (first | refine blk_drewN ?_ _ | refine blk_drew ?_ | refine blk_alloc ?_ _)); refine blk_put (cs := #[.int .i64 0, .string (⟨#[]⟩ : ByteArray)]) ?_ 1 _ rfl; (with_reducible repeat (first | refine blk_drewN ?_ _ | refine blk_drew ?_ | refine blk_alloc ?_ _)); refine blk_put (cs := #[.int .i64 0, .string (⟨#[]⟩ : ByteArray)]) ?_ 0 _ rfl; (with_reducible repeat (first | refine blk_drewN ?_ _ | refine blk_drew ?_ | refine blk_alloc ?_ _)); exact BK104.out) Tryd.underlying51 rfl (by kernel_rfl)) rfl ?_
    exact ⟨by first | rfl | (simp [errW_none, errW_some] <;> rfl) | (simp [*, errW_none, errW_some] <;> rfl), by repeat (first | (with_reducible first | exact HB.out | apply below_alloc | apply pw_below_drewN | apply below_drew1 | refine below_set ?_ GE104.out) | exact HB.out)⟩
theorem nextL_numerr (l : List UInt8) (h : (numL l 0 0).2.2 ≠ 0) : nextL l = ((0, []), 0, (numL l 0 0).2.2) := by unfold nextL; simp only; rw [if_pos h]
theorem nextL_texterr (l : List UInt8) (h : (numL l 0 0).2.2 = 0) (h2 : (textL (l.drop (numL l 0 0).2.1) 0).2 ≠ 0) : nextL l = ((0, []), 0, (textL (l.drop (numL l 0 0).2.1) 0).2) := by
  unfold nextL; simp only; rw [if_neg (by simpa using h), if_pos h2]
theorem nextL_ok (l : List UInt8) (h : (numL l 0 0).2.2 = 0) (h2 : (textL (l.drop (numL l 0 0).2.1) 0).2 = 0) : nextL l = (((numL l 0 0).1, (l.drop (numL l 0 0).2.1).take (textL (l.drop (numL l 0 0).2.1) 0).1), (numL l 0 0).2.1 + (textL (l.drop (numL l 0 0).2.1) 0).1 + 1, 0) := by
  unfold nextL; simp only; rw [if_neg (by simpa using h), if_neg (by simpa using h2)]
theorem drop_list (s : ByteArray) (n : Nat) : (s.extract n s.size).data.toList = s.data.toList.drop n := by
  rw [ByteArray.data_extract, Array.toList_extract, List.extract_eq_take_drop]; exact List.take_of_length_le (by rw [List.length_drop, size_list]; omega)
def tag_Next.f (a0 : ByteArray) : Option (Int × ByteArray × Int × Int) := if a0.size ≤ big then some (((nextL a0.data.toList).1.1 : Int), ⟨(nextL a0.data.toList).1.2.toArray⟩, ((nextL a0.data.toList).2.1 : Int), ((nextL a0.data.toList).2.2 : Int)) else none
theorem tag_Next_eq (s : ByteArray) (hs : s.size ≤ big) : tag_Next_p.f s = tag_Next.f s := by
  unfold tag_Next.f tag_Next_p.f tag_number.f
  rw [if_pos hs, if_pos hs]
  simp only [Option.bind_some]
  by_cases h1 : (numL s.data.toList 0 0).2.2 = 0
  · have hn := numL_le s.data.toList 0 0 h1
    rw [size_list] at hn
    rw [if_pos (by omega), if_pos (by omega), if_pos (by omega), Int.toNat_natCast]
    have hz : (s.extract (numL s.data.toList 0 0).2.1 s.size).size ≤ big := by rw [ByteArray.size_extract]; omega
    unfold tag_text.f
    rw [if_pos hz]
    simp only [Option.bind_some]
    rw [drop_list]
    by_cases h2 : (textL (s.data.toList.drop (numL s.data.toList 0 0).2.1) 0).2 = 0
    · rw [if_pos (by omega), nextL_ok _ h1 h2, if_pos h2]
      have ht := textL_le _ (s.data.toList.drop (numL s.data.toList 0 0).2.1) 0 (Nat.le_refl _) h2
      rw [List.length_drop, size_list] at ht
      have e1 : (⟨((s.data.toList.drop (numL s.data.toList 0 0).2.1).take (textL (s.data.toList.drop (numL s.data.toList 0 0).2.1) 0).1).toArray⟩ : ByteArray) = (s.extract (numL s.data.toList 0 0).2.1 s.size).extract 0 (textL (s.data.toList.drop (numL s.data.toList 0 0).2.1) 0).1 := by
        apply ba_ext; rw [take_list, drop_list]
      have e2 : ((s.extract (numL s.data.toList 0 0).2.1 s.size).extract 0 (textL (s.data.toList.drop (numL s.data.toList 0 0).2.1) 0).1).size = (textL (s.data.toList.drop (numL s.data.toList 0 0).2.1) 0).1 := by
        rw [ByteArray.size_extract, ByteArray.size_extract]; omega
      rw [e1, e2]
      unfold big at hs
      rw [w64_sum1 _ _ (by omega)]
      simp
    · rw [if_neg (by omega), nextL_texterr _ h1 h2]; simp
  · rw [if_neg (by omega), nextL_numerr _ h1]; simp
theorem tag_Next.calls (a0 : ByteArray) (r1 : Int) (r2 : ByteArray) (r3 : Int) (r4 : Int) (w : World) (h : tag_Next.f a0 = some (r1, r2, r3, r4)) :
    Calls Tryd.prog 47 #[.string a0] w fun e w' => e = .returned (.tuple #[.agg #[.int .i64 r1, .string r2], .int .i64 r3, .int .i64 r4]) ∧ Below w.heap.size w w' := by
  by_cases c : a0.size ≤ big
  · exact tag_Next_p.calls a0 r1 r2 r3 r4 w ((tag_Next_eq a0 c).trans h)
  · unfold tag_Next.f at h; rw [if_neg c] at h; cases h
end Go.Proofs.YtbkpkfbdpmjgoaaDoor.T
end
