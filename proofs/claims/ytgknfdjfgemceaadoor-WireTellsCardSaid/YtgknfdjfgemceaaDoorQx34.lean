/- Each Go function that the laws of this seat reach, as a plain Lean function, and its contract: the machine's call does what that function says. -/
import Derived.Test.YtgknfdjfgemceaaDoorQx0
import Derived.Test.YtgknfdjfgemceaaDoorQx1
import Derived.Test.YtgknfdjfgemceaaDoorQx32
namespace Go.Proofs.YtgknfdjfgemceaaDoor.Q
open Go.RowKit Go.Proofs.YtgknfdjfgemceaaDoorW.PrintWords Go.Proofs.YtgknfdjfgemceaaDoorW.PrintLast Go.Proofs.YtgknfdjfgemceaaDoorW.PrintMore
attribute [local go_sem] max2_int min2_int max_two min_two max_three min_three max_four min_four   -- for this text's walks alone
set_option linter.unusedVariables false
set_option linter.unusedSimpArgs false

--PART
/-! ### tag_Forms: function 18 -/
--needs 27
def pairF (x : S43) : Int × List UInt8 := (x.f0, x.f1.data.toList)
def smallF (l : List S43) : Bool := l.all fun x => decide (x.f1.size ≤ 9223372036854775807)
def tag_Forms.f (l0 : List S43) : Option (ByteArray × Int) := if smallF l0 = true then some (⟨(allFormsL (l0.map pairF)).1.toArray⟩, ((allFormsL (l0.map pairF)).2 : Int)) else none
def FormsIs (r : List UInt8 × Nat) (w : World) (e : Ending) (w' : World) : Prop := e = .returned (.tuple #[.string ⟨r.1.toArray⟩, .int .i64 (r.2 : Int)]) ∧ Below w.heap.size w w'
theorem FormsIs.mk_ {r : List UInt8 × Nat} {w w' : World} {b : ByteArray} {e : Nat} (h1 : b.data.toList = r.1) (h2 : e = r.2) (hw : Below w.heap.size w w') : FormsIs r w (.returned (.tuple #[.string b, .int .i64 (e : Int)])) w' := by
  subst h2; unfold FormsIs; rw [← h1]; exact ⟨rfl, hw⟩
theorem byteCells_append (a b : List UInt8) : Lib.byteCells (a ++ b) = Lib.byteCells a ++ Lib.byteCells b := by simp [Lib.byteCells]
theorem byteCells_len (a : List UInt8) : (Lib.byteCells a).length = a.length := by simp [Lib.byteCells]
theorem rdFF (l : List S43) (k : Nat) (h : k < l.length) : rd_T43 l (k : Int) = l[k] := by simp [rd_T43, h]
theorem BuilderAt.keep_ {T e : TypeId} {B b : Nat} {p : Value} {bs : List Value} {w w1 : World} {o : Obj} (h : Lib.BuilderAt T e B b p bs w) (hb : Below (w.alloc o).heap.size (w.alloc o) w1) : Lib.BuilderAt T e B b p bs w1 := by
  have hlt := h.lt
  obtain ⟨hB, v, hbk, hown, hne⟩ := h
  refine ⟨hB, v, ?_, ?_, hne⟩
  · rw [hb.block b (by rw [World.size_alloc]; omega), Below.heap_alloc _ _ _ hlt]; exact hbk
  · exact pw_own_below (own_alloc hown o) hb
set_option maxHeartbeats 4000000 in
set_option maxRecDepth 100000 in
theorem tag_Forms_walk (A0 : Option Addr) (c0 : Nat) (l0 : List S43) (w : World) (hT_ : Aside0 (Tabs_ w)) (hr0 : Kd.C k43 w A0 l0.length l0) (hc0 : l0.length ≤ c0) (hz : smallF l0 = true) :
    Calls Tryd.prog 18 #[.slice A0 l0.length c0] w (FormsIs (allFormsL (l0.map pairF)) w) := by
  have HR := Aside0.mk hr0
  clear hr0
  by_cases h64 : 64 < l0.length
  · have HF := Aside0.mk (show allFormsL (l0.map pairF) = ([], 3) by unfold allFormsL; rw [if_pos (by simpa using h64)])
    have t1 : decide ((64 : Int) < (l0.length : Int)) = true := by rw [decide_eq_true_eq]; omega
    have t2 : decide (64 < l0.length) = true := decide_eq_true h64
    clear hz
    go_enter Tryd.func18, Tryd.ntmps18
    go_wp2
    go_ret2
    rw [HF.out]
    exact FormsIs.mk_ (e := 3) rfl rfl (Below.refl _ _)
  · have HF := Aside0.mk (show allFormsL (l0.map pairF) = formsL (l0.map pairF) by unfold allFormsL; rw [if_neg (by simpa using h64)])
    have t1 : decide ((64 : Int) < (l0.length : Int)) = false := by rw [decide_eq_false_iff_not]; omega
    have t2 : decide (64 < l0.length) = false := decide_eq_false h64
    have HZ := Aside0.mk hz
    have hn64 : l0.length ≤ 64 := by omega
    clear hz h64
    go_enter Tryd.func18, Tryd.ntmps18
    go_wp2
    go_loopw [14] (fun v14 wr => ∃ (k : Nat) (acc : List UInt8), v14 = .int .i64 (k : Int) ∧ k ≤ l0.length ∧ Aside0 (acc.length ≤ 519 * k) ∧ Aside0 (Lib.IsBuilder 64 5 w.heap.size w.heap.size (Lib.byteCells acc) wr) ∧ Aside0 (Below w.heap.size w wr) ∧ Aside0 (formsAcc acc ((l0.map pairF).drop k) = formsL (l0.map pairF))) (fun v14 _ => l0.length - (intOf v14).toNat)
    case atStart => exact ⟨0, [], rfl, Nat.zero_le _, ⟨by simp⟩, ⟨Lib.fresh_isBuilder _ _ _⟩, ⟨(Below.refl _ _).alloc (Nat.le_refl _) _⟩, ⟨formsAcc_nil _⟩⟩
    case round =>
      obtain ⟨k, acc, rfl, hk, hacc, HB, HW, HA⟩ := hrel
      have hsz := HW.out.size
      by_cases hlt : k < l0.length
      · have t3 : decide (k < l0.length) = true := decide_eq_true hlt
        obtain ⟨ad, e144, hx0, hx1⟩ := at_T43 HR.out (k : Int) (by omega) (by omega)
        cases e144
        replace hx0 := (HW.out.cell (World.block_lt_of_cell? w _ hx0)).trans hx0
        replace hx1 := (HW.out.cell (World.block_lt_of_cell? w _ hx1)).trans hx1
        rw [rdFF l0 k hlt] at hx0 hx1
        rw [Int.toNat_natCast] at hx0 hx1
        have hsm : l0[k].f1.size ≤ 9223372036854775807 := by
          have := List.all_eq_true.1 HZ.out l0[k] (List.getElem_mem hlt); simpa using this
        have hdr : (l0.map pairF).drop k = pairF l0[k] :: (l0.map pairF).drop (k + 1) := by
          rw [List.drop_eq_getElem_cons (by simpa using hlt)]; simp
        rw [hdr] at HA
        have hcall : ∀ W, Aside0 (Tabs_ W) → Calls Tryd.prog 27 #[.agg #[.int .i64 l0[k].f0, .string l0[k].f1]] W fun e w' => e = .returned (.tuple #[.string ⟨(formL l0[k].f0 l0[k].f1.data.toList).1.toArray⟩, .int .i64 ((formL l0[k].f0 l0[k].f1.data.toList).2 : Int)]) ∧ Below W.heap.size W w' :=
          fun W hT => tag_Form.calls l0[k].f0 l0[k].f1 _ _ W hT (by unfold tag_Form.f; rw [if_pos hsm])
        have HC := Aside0.mk hcall
        clear hcall hdr hsm
        have hpf : pairF l0[k] = (l0[k].f0, l0[k].f1.data.toList) := rfl
        rw [hpf] at HA
        clear hpf
        have hfl := formL_len l0[k].f0 l0[k].f1.data.toList
        generalize l0[k].f0 = tg at *
        generalize l0[k].f1 = vl at *
        by_cases he : (formL tg vl.data.toList).2 = 0
        · have HA2 := Aside0.mk ((formsAcc_step acc (tg, vl.data.toList) _ he).symm.trans HA.out)
          have HE := Aside0.mk he
          clear HA he
          go_wp2_with (go_at_call 27; refine (HC.out _ ⟨hT_.out.below (HW.out.alloc hsz _)⟩).mono ?_; rintro e w1 ⟨rfl, hb1⟩; rw [HE.out]; have HB1 := Aside0.mk hb1; clear hb1)
          have HW1 := Aside0.mk ((HW.out.alloc hsz _).trans (HB1.out.mono (by rw [World.size_alloc]; omega)))
          have HBld := Aside0.mk (HB.out.imp (fun h => BuilderAt.keep_ h HB1.out) (fun h => BuilderAt.keep_ h HB1.out))
          clear HB HB1 HC
          have hsz1 := HW1.out.size
          generalize (formL tg vl.data.toList).1 = fl at *
          go_wp2_with (go_at_call 28; refine (Bld_WriteString w.heap.size w.heap.size (Lib.byteCells acc) ⟨fl.toArray⟩ _ HBld.out (by rw [byteCells_len, sz_lit]; have := hacc.out; omega) hsz1).mono ?_; rintro e w2 ⟨rfl, hb2, hb3⟩; have HB2 := Aside0.mk hb2; have HW2 := Aside0.mk hb3; clear hb2 hb3)
          go_roundw
          case rel => exact ⟨k + 1, acc ++ fl, by simp, by omega, ⟨by rw [List.length_append]; have := hacc.out; omega⟩, ⟨.inr (by rw [byteCells_append]; exact HB2.out)⟩, ⟨HW1.out.trans HW2.out⟩, HA2⟩
          case measure => simp [intOf]; omega
        · have HG := Aside0.mk ((formsAcc_bad acc (tg, vl.data.toList) _ he).symm.trans HA.out)
          have t4 : ((((formL tg vl.data.toList).2 : Nat) : Int) != 0) = true := by rw [bne_iff_ne]; omega
          clear HA he
          generalize (formL tg vl.data.toList).1 = fl at *
          generalize (formL tg vl.data.toList).2 = er at *
          go_wp2_with (go_at_call 27; refine (HC.out _ ⟨hT_.out.below (HW.out.alloc hsz _)⟩).mono ?_; rintro e w1 ⟨rfl, hb1⟩; have HB1 := Aside0.mk hb1; clear hb1)
          go_ret2
          rw [HF.out]
          exact FormsIs.mk_ (by rw [← HG.out]) (by rw [← HG.out]) ((HW.out.alloc hsz _).trans (HB1.out.mono (by rw [World.size_alloc]; omega)))
      · have t3 : decide (k < l0.length) = false := decide_eq_false hlt
        have HG := Aside0.mk (show (acc, 0) = formsL (l0.map pairF) by rw [← HA.out, List.drop_eq_nil_of_le (by simpa using hlt), formsAcc_end])
        clear HA
        go_wp2_with (go_at_call 29; refine (Tryd.Builder_String_any w.heap.size w.heap.size acc _ HB.out hsz).mono ?_; rintro e w1 ⟨rfl, hb1⟩; have HB1 := Aside0.mk hb1; clear hb1)
        go_ret2
        rw [HF.out]
        exact FormsIs.mk_ (e := 0) (by rw [← HG.out]) (by rw [← HG.out]) (HW.out.trans HB1.out)
theorem tag_Forms.calls (A0 : Option Addr) (c0 : Nat) (l0 : List S43) (r1 : ByteArray) (r2 : Int) (w : World) (hT_ : Aside0 (Tabs_ w)) (hr0 : Kd.C k43 w A0 l0.length l0) (hc0 : l0.length ≤ c0) (h : tag_Forms.f l0 = some (r1, r2)) :
    Calls Tryd.prog 18 #[.slice A0 l0.length c0] w fun e w' => e = .returned (.tuple #[.string r1, .int .i64 r2]) ∧ Below w.heap.size w w' := by
  unfold tag_Forms.f at h
  by_cases c : smallF l0 = true
  · rw [if_pos c] at h
    simp only [Option.some.injEq, Prod.mk.injEq] at h
    obtain ⟨rfl, rfl⟩ := h
    exact tag_Forms_walk A0 c0 l0 w hT_ hr0 hc0 c
  · rw [if_neg c] at h; cases h

end Go.Proofs.YtgknfdjfgemceaaDoor.Q
