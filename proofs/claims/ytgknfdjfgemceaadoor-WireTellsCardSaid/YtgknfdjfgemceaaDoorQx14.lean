/- Each Go function that the laws of this seat reach, as a plain Lean function, and its contract: the machine's call does what that function says. -/
import Derived.Test.YtgknfdjfgemceaaDoorQx0
import Derived.Test.YtgknfdjfgemceaaDoorQx1
import Derived.Test.YtgknfdjfgemceaaDoorQx8
import Derived.Test.YtgknfdjfgemceaaDoorQx10
import Derived.Test.YtgknfdjfgemceaaDoorQx11
import Derived.Test.YtgknfdjfgemceaaDoorQx13
namespace Go.Proofs.YtgknfdjfgemceaaDoor.Q
open Go.RowKit Go.Proofs.YtgknfdjfgemceaaDoorW.PrintWords Go.Proofs.YtgknfdjfgemceaaDoorW.PrintLast Go.Proofs.YtgknfdjfgemceaaDoorW.PrintMore
attribute [local go_sem] max2_int min2_int max_two min_two max_three min_three max_four min_four   -- for this text's walks alone
set_option linter.unusedVariables false
set_option linter.unusedSimpArgs false

--PART
/-! ### wire_Open: function 13 -/
/-- What 'must' throws. -/
def faultV (e : Int) : Value := .iface 57 (.agg #[.int .i64 e])
theorem must_ok (e : Int) (w : World) : Calls Tryd.prog 39 #[.bool true, .int .i64 e] w fun en w' => en = .returned (.tuple #[]) ∧ w' = w := by
  go_enter Tryd.func39, Tryd.ntmps39
  go_wp2
  go_end0
  exact ⟨rfl, rfl⟩
theorem must_no (e : Int) (w : World) : Calls Tryd.prog 39 #[.bool false, .int .i64 e] w fun en w' => en = .panicked [{ v := faultV e, recovered := false }] ∧ w' = w := by
  go_enter Tryd.func39, Tryd.ntmps39
  go_wp2
  exact ⟨rfl, rfl, rfl⟩
set_option maxRecDepth 100000 in
set_option maxHeartbeats 2000000 in
theorem next_end (g : Nat) (s : ByteArray) (n : Nat) (w : World) (h0 : w.cell? ⟨g, 0, none⟩ = some (.string s)) (h1 : w.cell? ⟨g, 1, none⟩ = some (.int .i64 (n : Int))) (hn : s.size ≤ n) :
    Calls Tryd.prog 47 #[.pointer (some ⟨g, 0, none⟩)] w fun en w' => en = .panicked [{ v := faultV 100, recovered := false }] ∧ w' = w.drew := by
  have t1 : decide ((n : Int) < (s.size : Int)) = false := by rw [decide_eq_false_iff_not]; omega
  have t2 : decide (n < s.size) = false := decide_eq_false (by omega)
  go_enter Tryd.func47, Tryd.ntmps47
  go_wp2
  go_still_tail 10, (by kernel_rfl)
  change wpList _ _ _ _ _ w.drew
  generalize hw2 : w.drew = w2
  go_wp2_with (go_at_call 39; refine (must_no 100 _).mono ?_; rintro e w' ⟨rfl, hw⟩)
  exact ⟨rfl, rfl, hw2.symm⟩
set_option maxRecDepth 100000 in
set_option maxHeartbeats 2000000 in
theorem next_ok (g : Nat) (s : ByteArray) (n : Nat) (w : World) (h0 : w.cell? ⟨g, 0, none⟩ = some (.string s)) (h1 : w.cell? ⟨g, 1, none⟩ = some (.int .i64 (n : Int))) (hz : w.frozen? ⟨g, 1, none⟩ = false) (hn : n < s.size) (hs : s.size ≤ 4611686018427387904) :
    Calls Tryd.prog 47 #[.pointer (some ⟨g, 0, none⟩)] w fun en w' => en = .returned (.int .u8 (s[n].toNat : Int)) ∧ ∃ q, w' = (w.setCell ⟨g, 1, none⟩ (.int .i64 ((n : Int) + 1))).drewN q := by
  have t1 : decide ((n : Int) < (s.size : Int)) = true := by rw [decide_eq_true_eq]; omega
  have t2 : decide (n < s.size) = true := decide_eq_true (by omega)
  go_enter Tryd.func47, Tryd.ntmps47
  go_wp2
  go_still_tail 10, (by kernel_rfl)
  change wpList _ _ _ _ _ w.drew
  go_wp2_with (go_at_call 39; refine (must_ok 100 _).mono ?_; rintro e w' ⟨rfl, rfl⟩)
  have k0 : (w.setCell ⟨g, 1, none⟩ (.int .i64 (wrap64 ((n : Int) + 1)))).cell? ⟨g, 0, none⟩ = some (.string s) := (World.cell?_setCell_other _ _ _ _ (by simp)).trans h0
  have k1 : (w.setCell ⟨g, 1, none⟩ (.int .i64 (wrap64 ((n : Int) + 1)))).cell? ⟨g, 1, none⟩ = some (.int .i64 (wrap64 ((n : Int) + 1))) := World.cell?_setCell_same _ _ _ h1
  have e1 : wrap64 ((n : Int) + 1) = ((n + 1 : Nat) : Int) := by unfold wrap64; omega
  have e2 : wrap64 (((n + 1 : Nat) : Int) - 1) = (n : Int) := by unfold wrap64; omega
  rw [e1] at k0 k1
  try rw [e1]
  go_quiet (fail)
  go_wp2
  go_ret
  exact ⟨rfl, _, World.drewN_drew _ _⟩
/-- The cursor of a text, at a place. -/
structure Cur (g : Nat) (s : ByteArray) (n : Nat) (w : World) : Prop where
  text : w.cell? ⟨g, 0, none⟩ = some (.string s)
  place : w.cell? ⟨g, 1, none⟩ = some (.int .i64 (n : Int))
  live : w.frozen? ⟨g, 1, none⟩ = false
theorem Cur.drew {g : Nat} {s : ByteArray} {n : Nat} {w : World} (h : Cur g s n w) : Cur g s n w.drew := ⟨h.text, h.place, h.live⟩
theorem Cur.set {g : Nat} {s : ByteArray} {n : Nat} {w : World} (h : Cur g s n w) (m : Nat) : Cur g s m (w.setCell ⟨g, 1, none⟩ (.int .i64 (m : Int))) :=
  ⟨(World.cell?_setCell_other _ _ _ _ (by simp)).trans h.text, World.cell?_setCell_same _ _ _ h.place, by rw [World.frozen?_setCell]; exact h.live⟩
theorem Below.drewN_ {B : Nat} {a w : World} (h : Below B a w) (q : Nat) : Below B a (w.drewN q) := ⟨h.os, h.tape, h.output, h.size, h.block⟩
/-- next, where a byte is left .. -/
theorem next_some (g : Nat) (s : ByteArray) (n : Nat) (w : World) (h : Cur g s n w) (hn : n < s.size) (hs : s.size ≤ 4611686018427387904) :
    Calls Tryd.prog 47 #[.pointer (some ⟨g, 0, none⟩)] w fun en w' => en = .returned (.int .u8 ((s.data.toList.getD n 0).toNat : Int)) ∧ Cur g s (n + 1) w' ∧ Below g w w' := by
  refine (next_ok g s n w h.text h.place h.live hn hs).mono ?_
  rintro en w' ⟨rfl, q, rfl⟩
  have hc := h.set (n + 1)
  have e : (((n + 1 : Nat) : Int)) = (n : Int) + 1 := by omega
  rw [e] at hc
  refine ⟨?_, ⟨hc.text, hc.place, hc.live⟩, Below.drewN_ (Below.setCell (Below.refl _ _) (Nat.le_refl g) _) q⟩
  have : s.data.toList.getD n 0 = s[n] := by
    have hl : n < s.data.toList.length := hn
    rw [List.getD_eq_getElem?_getD, List.getElem?_eq_getElem hl]; rfl
  rw [this]
/-- .. and where none is. -/
theorem next_none (g : Nat) (s : ByteArray) (n : Nat) (w : World) (h : Cur g s n w) (hn : s.size ≤ n) :
    Calls Tryd.prog 47 #[.pointer (some ⟨g, 0, none⟩)] w fun en w' => en = .panicked [{ v := faultV 100, recovered := false }] ∧ Below g w w' :=
  (next_end g s n w h.text h.place hn).mono fun en w' hh => ⟨hh.1, by rw [hh.2]; exact Below.drew (Below.refl _ _)⟩
/-- A call in a region that draws, that ends in a panic. -/
theorem throws_ {P : Program} {ops : Array Oper} {Q : Exit → Act → World → Prop} {oi : Oper} {N : Option Tmp} {a : Act} {w : World} {K : Act → World → Prop} {f : FuncId} {fn : Func} {ar : Array Operand} {ts : Array TypeId} (hf : P.funcs[f]? = some fn) (hname : (fn.name == "runtime.NumGoroutine") = false) (hb : fn.body.isSome = true) (args : Array Value)
    (hw : Region.wanted oi (yielded ops a.tmps) = true) (hop : oi.op = .call { callee := .value (.func f), args := ar, argTypes := ts }) (hargs : ar.map a.eval = args)
    (h : Calls P f args w fun e w' => ∃ c, e = .panicked c ∧ Q (.panic c) a w') : if Region.wanted oi (yielded ops a.tmps) = true then Oper.wp P oi a w K Q else K (a.put N undef) w := by
  have he := enters_ hf hname hb args w
  have hrun : (execOp a.eval oi).run P w = .ok (.enter f args) w := by
    unfold execOp
    simp [hop, resolve, Deferred.ofValue, invoke, Act.eval, hargs, he]
  rw [if_pos hw]
  unfold Oper.wp
  rw [hrun, Oper.upon_enter]
  refine h.mono fun e w'' hh => ?_
  obtain ⟨v, rfl, hk⟩ := hh
  exact hk
def WordIs (g : Nat) (s wd : ByteArray) (n : Nat) (W : World) (en : Ending) (w' : World) : Prop :=
  (wordL wd.data.toList (s.data.toList.drop n) = 0 ∧ en = .returned (.tuple #[]) ∧ Cur g s (n + wd.size) w' ∧ Below g W w') ∨
  (wordL wd.data.toList (s.data.toList.drop n) ≠ 0 ∧ en = .panicked [{ v := faultV (wordL wd.data.toList (s.data.toList.drop n) : Int), recovered := false }] ∧ Below g W w')
theorem WordIs.no_ {g n r : Nat} {s wd : ByteArray} {W w' : World} (h : wordL wd.data.toList (s.data.toList.drop n) = r) (hr : r ≠ 0) (hb : Below g W w') : WordIs g s wd n W (.panicked [{ v := faultV (r : Int), recovered := false }]) w' := by
  subst h; exact .inr ⟨hr, rfl, hb⟩
theorem WordIs.yes_ {g n : Nat} {s wd : ByteArray} {W w' : World} (h : wordL wd.data.toList (s.data.toList.drop n) = 0) (hc : Cur g s (n + wd.size) w') (hb : Below g W w') : WordIs g s wd n W (.returned (.tuple #[])) w' := .inl ⟨h, rfl, hc, hb⟩
theorem wordL_cons (b c : UInt8) (w s : List UInt8) : wordL (b :: w) (c :: s) = if c = b then wordL w s else 101 := rfl
set_option maxRecDepth 100000 in
set_option maxHeartbeats 4000000 in
theorem word_walk (g : Nat) (s wd : ByteArray) (n : Nat) (W : World) (h : Cur g s n W) (hs : s.size ≤ 4611686018427387904) (hw : wd.size ≤ 4611686018427387904) :
    Calls Tryd.prog 37 #[.pointer (some ⟨g, 0, none⟩), .string wd, .int .i64 101] W (WordIs g s wd n W) := by
  go_enter Tryd.func37, Tryd.ntmps37
  go_wp2
  go_loopw [9] (fun v9 wr => ∃ k : Nat, v9 = .int .i64 (k : Int) ∧ k ≤ wd.size ∧ Aside0 (Cur g s (n + k) wr) ∧ Aside0 (Below g W wr) ∧ Aside0 (wordL (wd.data.toList.drop k) (s.data.toList.drop (n + k)) = wordL wd.data.toList (s.data.toList.drop n))) (fun v9 _ => wd.size - (intOf v9).toNat)
  case atStart => exact ⟨0, rfl, Nat.zero_le _, ⟨h⟩, ⟨Below.refl _ _⟩, ⟨rfl⟩⟩
  case round =>
    obtain ⟨k, rfl, hk, HC, HW, HA⟩ := hrel
    by_cases hlt : k < wd.size
    · have t1 : decide ((k : Int) < (wd.size : Int)) = true := by rw [decide_eq_true_eq]; omega
      have t2 : decide (k < wd.size) = true := decide_eq_true hlt
      have hdk : wd.data.toList.drop k = wd[k] :: wd.data.toList.drop (k + 1) := List.drop_eq_getElem_cons (show k < wd.data.toList.length from hlt)
      by_cases hns : n + k < s.size
      · have hds : s.data.toList.drop (n + k) = s.data.toList.getD (n + k) 0 :: s.data.toList.drop (n + k + 1) := by
          have hl : n + k < s.data.toList.length := hns
          rw [List.drop_eq_getElem_cons hl, List.getD_eq_getElem?_getD, List.getElem?_eq_getElem hl]; rfl
        rw [hdk, hds] at HA
        by_cases heq : s.data.toList.getD (n + k) 0 = wd[k]
        · have hbyte : (((s.data.toList.getD (n + k) 0).toNat : Nat) : Int) = ((wd[k].toNat : Nat) : Int) := by rw [heq]
          have HA2 : Aside0 (wordL (wd.data.toList.drop (k + 1)) (s.data.toList.drop (n + (k + 1))) = wordL wd.data.toList (s.data.toList.drop n)) := ⟨by
            have h1 := HA.out
            rw [wordL_cons, if_pos heq] at h1
            exact h1⟩
          clear HA hdk hds heq
          go_wp2
          refine start_ (n := 8) (S := fun w' => True) (ds := []) #[false, false, false, false, false, false, false, false] (by kernel_rfl) rfl rfl trivial (fun hHeld => ?_)
          refine pure_ (i := 0) (N := some 12) (v := ?_) (a' := ?_) #[true, false, false, false, false, false, false, false] rfl rfl (by kernel_rfl) (fun _ _ _ h => h) (Or.inl ⟨by rfl, ?_⟩) ?_ ?_
          rotate_left
          · intro w'
            go_simp
            with_reducible rfl
          rotate_left
          · simp only [Act.put, List.setIfInBounds_toArray, List.set_cons_zero, List.set_cons_succ, i64_w, i32_w]
            rfl
          refine pure_ (i := 2) (N := some 14) (v := ?_) (a' := ?_) #[true, false, true, false, false, false, false, false] rfl rfl (by kernel_rfl) (fun _ _ _ h => h) (Or.inl ⟨by rfl, ?_⟩) ?_ ?_
          rotate_left
          · intro w'
            go_simp
            with_reducible rfl
          rotate_left
          · simp only [Act.put, List.setIfInBounds_toArray, List.set_cons_zero, List.set_cons_succ, i64_w, i32_w]
            rfl
          refine pure_ (i := 3) (N := some 15) (v := ?_) (a' := ?_) #[true, false, true, true, false, false, false, false] rfl rfl (by kernel_rfl) (fun _ _ _ h => h) (Or.inl ⟨by rfl, ?_⟩) ?_ ?_
          rotate_left
          · intro w'
            go_simp
            with_reducible rfl
          rotate_left
          · simp only [Act.put, List.setIfInBounds_toArray, List.set_cons_zero, List.set_cons_succ, i64_w, i32_w]
            rfl
          refine pure_ (i := 6) (N := some 18) (v := ?_) (a' := ?_) #[true, false, true, true, false, false, true, false] rfl rfl (by kernel_rfl) (fun _ _ _ h => h) (Or.inl ⟨by rfl, ?_⟩) ?_ ?_
          rotate_left
          · intro w'
            go_simp
            with_reducible rfl
          rotate_left
          · simp only [Act.put, List.setIfInBounds_toArray, List.set_cons_zero, List.set_cons_succ, i64_w, i32_w]
            rfl
          refine take_ (i := 4) (N := some 16) (v := ?_) (a' := ?_) #[true, false, true, true, true, false, true, false] rfl rfl (by kernel_rfl) (fun _ _ _ h => h) (Or.inl ⟨by rfl, ?_⟩) hHeld ?_ ?_
          rotate_left
          · intro w' _
            go_simp
            with_reducible rfl
          rotate_left
          · simp only [Act.put, List.setIfInBounds_toArray, List.set_cons_zero, List.set_cons_succ, i64_w, i32_w]
            rfl
          refine one_ (i := 1) (N := some 13) #[true, true, true, true, true, false, true, false] rfl rfl (by kernel_rfl) (by decide) (fun K hK => ?_)
          refine goes_ Tryd.func47 (by kernel_rfl) rfl #[.pointer (some ⟨g, 0, none⟩)] (by rfl) rfl rfl (by simp only [List.map_toArray, List.map_cons, List.map_nil]; rfl) ?_
          with_reducible refine (next_some g s (n + k) _ HC.out.drew hns hs).mono ?_
          rintro e w2 ⟨rfl, hc2, hb2⟩
          refine ⟨_, rfl, ?_⟩
          have HC2 := Aside0.mk hc2
          have HW2 := Aside0.mk (HW.out.drew.trans hb2)
          clear hc2 hb2
          rw [hbyte]
          refine hK.out _ _ trivial (fun hHeld => ?_)
          clear hK K
          refine norm_ (a' := ?_) ?_ ?_
          rotate_left
          · show Act.put _ (some 13) _ = _
            simp only [Act.put, List.setIfInBounds_toArray, List.set_cons_zero, List.set_cons_succ, i64_w, i32_w]
            rfl
          refine pure_ (i := 5) (N := some 17) (v := ?_) (a' := ?_) #[true, true, true, true, true, true, true, false] rfl rfl (by kernel_rfl) (fun _ _ _ h => h) (Or.inl ⟨by rfl, ?_⟩) ?_ ?_
          rotate_left
          · intro w'
            go_simp
            with_reducible rfl
          rotate_left
          · simp only [Act.put, List.setIfInBounds_toArray, List.set_cons_zero, List.set_cons_succ, i64_w, i32_w]
            rfl
          refine one_ (i := 7) (N := some 19) #[true, true, true, true, true, true, true, true] rfl rfl (by kernel_rfl) (by decide) (fun K hK => ?_)
          refine goes_ Tryd.func39 (by kernel_rfl) rfl #[.bool true, .int .i64 101] (by rfl) rfl rfl (by simp only [List.map_toArray, List.map_cons, List.map_nil]; rfl) ?_
          with_reducible refine (must_ok 101 _).mono ?_
          rintro e w3 ⟨rfl, rfl⟩
          refine ⟨_, rfl, ?_⟩
          refine hK.out _ _ trivial (fun hHeld => ?_)
          clear hK K
          refine norm_ (a' := ?_) ?_ ?_
          rotate_left
          · show Act.put _ (some 19) _ = _
            simp only [Act.put, List.setIfInBounds_toArray, List.set_cons_zero, List.set_cons_succ, i64_w, i32_w]
            rfl
          refine done_ (by kernel_rfl) ?_
          go_wp2
          exact ⟨⟨k + 1, by simp, by omega, HC2, HW2, HA2⟩, by simp [intOf]; omega⟩
        · have HF : Aside0 (wordL wd.data.toList (s.data.toList.drop n) = 101) := ⟨by
            rw [← HA.out, wordL_cons, if_neg heq]⟩
          have tne : (((s.data.toList.getD (n + k) 0).toNat : Int) == ((wd[k].toNat : Nat) : Int)) = false := by
            rw [beq_eq_false_iff_ne]; intro g1; exact heq (UInt8.toNat_inj.1 (by omega))
          clear HA hdk hds heq
          generalize hbb : s.data.toList.getD (n + k) 0 = bb at tne
          go_wp2
          refine start_ (n := 8) (S := fun w' => True) (ds := []) #[false, false, false, false, false, false, false, false] (by kernel_rfl) rfl rfl trivial (fun hHeld => ?_)
          refine pure_ (i := 0) (N := some 12) (v := ?_) (a' := ?_) #[true, false, false, false, false, false, false, false] rfl rfl (by kernel_rfl) (fun _ _ _ h => h) (Or.inl ⟨by rfl, ?_⟩) ?_ ?_
          rotate_left
          · intro w'
            go_simp
            with_reducible rfl
          rotate_left
          · simp only [Act.put, List.setIfInBounds_toArray, List.set_cons_zero, List.set_cons_succ, i64_w, i32_w]
            rfl
          refine pure_ (i := 2) (N := some 14) (v := ?_) (a' := ?_) #[true, false, true, false, false, false, false, false] rfl rfl (by kernel_rfl) (fun _ _ _ h => h) (Or.inl ⟨by rfl, ?_⟩) ?_ ?_
          rotate_left
          · intro w'
            go_simp
            with_reducible rfl
          rotate_left
          · simp only [Act.put, List.setIfInBounds_toArray, List.set_cons_zero, List.set_cons_succ, i64_w, i32_w]
            rfl
          refine pure_ (i := 3) (N := some 15) (v := ?_) (a' := ?_) #[true, false, true, true, false, false, false, false] rfl rfl (by kernel_rfl) (fun _ _ _ h => h) (Or.inl ⟨by rfl, ?_⟩) ?_ ?_
          rotate_left
          · intro w'
            go_simp
            with_reducible rfl
          rotate_left
          · simp only [Act.put, List.setIfInBounds_toArray, List.set_cons_zero, List.set_cons_succ, i64_w, i32_w]
            rfl
          refine pure_ (i := 6) (N := some 18) (v := ?_) (a' := ?_) #[true, false, true, true, false, false, true, false] rfl rfl (by kernel_rfl) (fun _ _ _ h => h) (Or.inl ⟨by rfl, ?_⟩) ?_ ?_
          rotate_left
          · intro w'
            go_simp
            with_reducible rfl
          rotate_left
          · simp only [Act.put, List.setIfInBounds_toArray, List.set_cons_zero, List.set_cons_succ, i64_w, i32_w]
            rfl
          refine take_ (i := 4) (N := some 16) (v := ?_) (a' := ?_) #[true, false, true, true, true, false, true, false] rfl rfl (by kernel_rfl) (fun _ _ _ h => h) (Or.inl ⟨by rfl, ?_⟩) hHeld ?_ ?_
          rotate_left
          · intro w' _
            go_simp
            with_reducible rfl
          rotate_left
          · simp only [Act.put, List.setIfInBounds_toArray, List.set_cons_zero, List.set_cons_succ, i64_w, i32_w]
            rfl
          refine one_ (i := 1) (N := some 13) #[true, true, true, true, true, false, true, false] rfl rfl (by kernel_rfl) (by decide) (fun K hK => ?_)
          refine goes_ Tryd.func47 (by kernel_rfl) rfl #[.pointer (some ⟨g, 0, none⟩)] (by rfl) rfl rfl (by simp only [List.map_toArray, List.map_cons, List.map_nil]; rfl) ?_
          with_reducible refine (next_some g s (n + k) _ HC.out.drew hns hs).mono ?_
          rintro e w2 ⟨rfl, hc2, hb2⟩
          refine ⟨_, rfl, ?_⟩
          have HC2 := Aside0.mk hc2
          have HW2 := Aside0.mk (HW.out.drew.trans hb2)
          clear hc2 hb2
          rw [hbb]
          refine hK.out _ _ trivial (fun hHeld => ?_)
          clear hK K
          refine norm_ (a' := ?_) ?_ ?_
          rotate_left
          · show Act.put _ (some 13) _ = _
            simp only [Act.put, List.setIfInBounds_toArray, List.set_cons_zero, List.set_cons_succ, i64_w, i32_w]
            rfl
          refine pure_ (i := 5) (N := some 17) (v := ?_) (a' := ?_) #[true, true, true, true, true, true, true, false] rfl rfl (by kernel_rfl) (fun _ _ _ h => h) (Or.inl ⟨by rfl, ?_⟩) ?_ ?_
          rotate_left
          · intro w'
            go_simp
            with_reducible rfl
          rotate_left
          · simp only [Act.put, List.setIfInBounds_toArray, List.set_cons_zero, List.set_cons_succ, i64_w, i32_w]
            rfl
          refine one_ (i := 7) (N := some 19) #[true, true, true, true, true, true, true, true] rfl rfl (by kernel_rfl) (by decide) (fun K hK => ?_)
          refine throws_ Tryd.func39 (by kernel_rfl) rfl #[.bool false, .int .i64 101] (by rfl) rfl (by simp only [List.map_toArray, List.map_cons, List.map_nil]; rfl) ?_
          with_reducible refine (must_no 101 _).mono ?_
          rintro e w3 ⟨rfl, rfl⟩
          refine ⟨_, rfl, ?_⟩
          exact ⟨rfl, WordIs.no_ (r := 101) HF.out (by decide) HW2.out⟩
      · have HF : Aside0 (wordL wd.data.toList (s.data.toList.drop n) = 100) := ⟨by
          rw [← HA.out, hdk, List.drop_eq_nil_of_le (show s.data.toList.length ≤ n + k by have : s.data.toList.length = s.size := rfl; omega)]; rfl⟩
        clear HA hdk
        go_wp2
        refine start_ (n := 8) (S := fun w' => True) (ds := []) #[false, false, false, false, false, false, false, false] (by kernel_rfl) rfl rfl trivial (fun hHeld => ?_)
        refine pure_ (i := 0) (N := some 12) (v := ?_) (a' := ?_) #[true, false, false, false, false, false, false, false] rfl rfl (by kernel_rfl) (fun _ _ _ h => h) (Or.inl ⟨by rfl, ?_⟩) ?_ ?_
        rotate_left
        · intro w'
          go_simp
          with_reducible rfl
        rotate_left
        · simp only [Act.put, List.setIfInBounds_toArray, List.set_cons_zero, List.set_cons_succ, i64_w, i32_w]
          rfl
        refine pure_ (i := 2) (N := some 14) (v := ?_) (a' := ?_) #[true, false, true, false, false, false, false, false] rfl rfl (by kernel_rfl) (fun _ _ _ h => h) (Or.inl ⟨by rfl, ?_⟩) ?_ ?_
        rotate_left
        · intro w'
          go_simp
          with_reducible rfl
        rotate_left
        · simp only [Act.put, List.setIfInBounds_toArray, List.set_cons_zero, List.set_cons_succ, i64_w, i32_w]
          rfl
        refine pure_ (i := 3) (N := some 15) (v := ?_) (a' := ?_) #[true, false, true, true, false, false, false, false] rfl rfl (by kernel_rfl) (fun _ _ _ h => h) (Or.inl ⟨by rfl, ?_⟩) ?_ ?_
        rotate_left
        · intro w'
          go_simp
          with_reducible rfl
        rotate_left
        · simp only [Act.put, List.setIfInBounds_toArray, List.set_cons_zero, List.set_cons_succ, i64_w, i32_w]
          rfl
        refine pure_ (i := 6) (N := some 18) (v := ?_) (a' := ?_) #[true, false, true, true, false, false, true, false] rfl rfl (by kernel_rfl) (fun _ _ _ h => h) (Or.inl ⟨by rfl, ?_⟩) ?_ ?_
        rotate_left
        · intro w'
          go_simp
          with_reducible rfl
        rotate_left
        · simp only [Act.put, List.setIfInBounds_toArray, List.set_cons_zero, List.set_cons_succ, i64_w, i32_w]
          rfl
        refine take_ (i := 4) (N := some 16) (v := ?_) (a' := ?_) #[true, false, true, true, true, false, true, false] rfl rfl (by kernel_rfl) (fun _ _ _ h => h) (Or.inl ⟨by rfl, ?_⟩) hHeld ?_ ?_
        rotate_left
        · intro w' _
          go_simp
          with_reducible rfl
        rotate_left
        · simp only [Act.put, List.setIfInBounds_toArray, List.set_cons_zero, List.set_cons_succ, i64_w, i32_w]
          rfl
        refine one_ (i := 1) (N := some 13) #[true, true, true, true, true, false, true, false] rfl rfl (by kernel_rfl) (by decide) (fun K hK => ?_)
        refine throws_ Tryd.func47 (by kernel_rfl) rfl #[.pointer (some ⟨g, 0, none⟩)] (by rfl) rfl (by simp only [List.map_toArray, List.map_cons, List.map_nil]; rfl) ?_
        with_reducible refine (next_none g s (n + k) _ HC.out.drew (by omega)).mono ?_
        rintro e w2 ⟨rfl, hb2⟩
        refine ⟨_, rfl, ?_⟩
        exact ⟨rfl, WordIs.no_ (r := 100) HF.out (by decide) (HW.out.drew.trans hb2)⟩
    · have t1 : decide ((k : Int) < (wd.size : Int)) = false := by rw [decide_eq_false_iff_not]; omega
      have t2 : decide (k < wd.size) = false := decide_eq_false hlt
      obtain rfl : k = wd.size := by omega
      have HF : Aside0 (wordL wd.data.toList (s.data.toList.drop n) = 0) := ⟨by
        rw [← HA.out, List.drop_eq_nil_of_le (show wd.data.toList.length ≤ wd.size from Nat.le_refl _)]; rfl⟩
      clear HA
      go_wp2
      go_end0
      exact WordIs.yes_ HF.out HC.out HW.out
def LenIs (g : Nat) (s : ByteArray) (n : Nat) (W : World) (en : Ending) (w' : World) : Prop :=
  ((lenL (s.data.toList.drop n) true 0).2.2 = 0 ∧ en = .returned (.int .i64 ((lenL (s.data.toList.drop n) true 0).1 : Int)) ∧ Cur g s (n + (lenL (s.data.toList.drop n) true 0).2.1) w' ∧ Below g W w') ∨
  ((lenL (s.data.toList.drop n) true 0).2.2 ≠ 0 ∧ en = .panicked [{ v := faultV ((lenL (s.data.toList.drop n) true 0).2.2 : Int), recovered := false }] ∧ Below g W w')
theorem LenIs.no_ {g n r : Nat} {s : ByteArray} {W w' : World} (h : (lenL (s.data.toList.drop n) true 0).2.2 = r) (hr : r ≠ 0) (hb : Below g W w') : LenIs g s n W (.panicked [{ v := faultV (r : Int), recovered := false }]) w' := by
  subst h; exact .inr ⟨hr, rfl, hb⟩
theorem LenIs.yes_ {g n m k : Nat} {s : ByteArray} {W w' : World} (h : lenL (s.data.toList.drop n) true 0 = (m, k, 0)) (hc : Cur g s (n + k) w') (hb : Below g W w') : LenIs g s n W (.returned (.int .i64 (m : Int))) w' := by
  unfold LenIs; rw [h]; exact .inl ⟨rfl, rfl, hc, hb⟩
def placeOf (g : Nat) (w : World) : Nat := match w.cell? ⟨g, 1, none⟩ with
  | some (.int _ m) => m.toNat
  | _ => 0
theorem placeOf_of {g n : Nat} {s : ByteArray} {w : World} (h : Cur g s n w) : placeOf g w = n := by unfold placeOf; rw [h.place]; simp
theorem lenL_cons (b : UInt8) (t : List UInt8) (first : Bool) (n : Nat) : lenL (b :: t) first n = if b.toNat = 1 ∧ first = false then (n, 1, 0) else if ¬ isDig b ∨ (b.toNat = 48 ∧ first = true) then (0, 0, 102) else if 4096 < 10 * n + (b.toNat - 48) then (0, 0, 102) else
      ((lenL t false (10 * n + (b.toNat - 48))).1, (lenL t false (10 * n + (b.toNat - 48))).2.1 + 1, (lenL t false (10 * n + (b.toNat - 48))).2.2) := rfl
set_option maxRecDepth 100000 in
set_option maxHeartbeats 4000000 in
theorem length_walk (g : Nat) (s : ByteArray) (n : Nat) (W : World) (h : Cur g s n W) (hs : s.size ≤ 4611686018427387904) :
    Calls Tryd.prog 38 #[.pointer (some ⟨g, 0, none⟩)] W (LenIs g s n W) := by
  go_enter Tryd.func38, Tryd.ntmps38
  go_wp2
  go_loopw [3, 4] (fun v3 v4 wr => ∃ (m : Nat) (first : Bool) (q : Nat), v3 = .int .i64 (m : Int) ∧ v4 = .bool first ∧ m ≤ 4096 ∧ Aside0 (Cur g s (n + q) wr) ∧ Aside0 (Below g W wr) ∧ Aside0 (lenL (s.data.toList.drop n) true 0 = ((lenL (s.data.toList.drop (n + q)) first m).1, (lenL (s.data.toList.drop (n + q)) first m).2.1 + q, (lenL (s.data.toList.drop (n + q)) first m).2.2))) (fun _ _ wr => s.size - placeOf g wr)
  case atStart => exact ⟨0, true, 0, rfl, rfl, by omega, ⟨h⟩, ⟨Below.refl _ _⟩, ⟨rfl⟩⟩
  case round =>
    obtain ⟨m, first, q, rfl, rfl, hm, HC, HW, HA⟩ := hrel
    have hpl := placeOf_of HC.out
    by_cases hns : n + q < s.size
    · have hds : s.data.toList.drop (n + q) = s.data.toList.getD (n + q) 0 :: s.data.toList.drop (n + q + 1) := by
        have hl : n + q < s.data.toList.length := hns
        rw [List.drop_eq_getElem_cons hl, List.getD_eq_getElem?_getD, List.getElem?_eq_getElem hl]; rfl
      rw [hds, lenL_cons] at HA
      have HN := Aside0.mk (next_some g s (n + q) _ HC.out hns hs)
      clear hds
      generalize s.data.toList.getD (n + q) 0 = b at *
      have hb := b.toNat_lt
      cases first with
      | true =>
        by_cases g1 : 48 ≤ b.toNat
        · by_cases g2 : b.toNat ≤ 57
          · by_cases g3 : b.toNat = 48
            · skip
              have f1 : (((b.toNat : Nat) : Int) == 1) = false := by rw [beq_eq_false_iff_ne]; omega
              have f2 : decide ((48 : Int) ≤ ((b.toNat : Nat) : Int)) = true := by rw [decide_eq_true_eq]; omega
              have f2n : decide (48 ≤ b.toNat) = true := by rw [decide_eq_true_eq]; omega
              have f3 : decide (((b.toNat : Nat) : Int) ≤ 57) = true := by rw [decide_eq_true_eq]; omega
              have f3n : decide (b.toNat ≤ 57) = true := by rw [decide_eq_true_eq]; omega
              have f4 : (((b.toNat : Nat) : Int) != 48) = false := by rw [bne_eq_false_iff_eq]; omega
              have HF : Aside0 ((lenL (s.data.toList.drop n) true 0).2.2 = 102) := ⟨by rw [HA.out, if_neg (by simp; try omega), if_pos (by exact .inr ⟨g3, rfl⟩)]⟩
              clear HA
              go_wp2_with (go_at_call 47; with_reducible refine (HN.out).mono ?_; rintro e w2 ⟨rfl, hc2, hb2⟩; have HC2 := Aside0.mk hc2; have HB2 := Aside0.mk (HW.out.trans hb2); clear hc2 hb2)
              go_wp2_with (go_at_call 39; with_reducible refine (must_no 102 _).mono ?_; rintro e w3 ⟨rfl, rfl⟩)
              exact ⟨rfl, LenIs.no_ (r := 102) HF.out (by decide) HB2.out⟩
            · skip
              have f1 : (((b.toNat : Nat) : Int) == 1) = false := by rw [beq_eq_false_iff_ne]; omega
              have f2 : decide ((48 : Int) ≤ ((b.toNat : Nat) : Int)) = true := by rw [decide_eq_true_eq]; omega
              have f2n : decide (48 ≤ b.toNat) = true := by rw [decide_eq_true_eq]; omega
              have f3 : decide (((b.toNat : Nat) : Int) ≤ 57) = true := by rw [decide_eq_true_eq]; omega
              have f3n : decide (b.toNat ≤ 57) = true := by rw [decide_eq_true_eq]; omega
              have f4 : (((b.toNat : Nat) : Int) != 48) = true := by rw [bne_iff_ne]; omega
              rw [if_neg (by simp; try omega), if_neg (by unfold isDig; simp; omega)] at HA
              have w1 : (((b.toNat : Nat) : Int) - 48) % 256 = ((b.toNat - 48 : Nat) : Int) := by omega
              have w2_ : wrap64 (10 * (m : Int)) = 10 * (m : Int) := by unfold wrap64; omega
              have w3_ : wrap64 (10 * (m : Int) + ((b.toNat - 48 : Nat) : Int)) = ((10 * m + (b.toNat - 48) : Nat) : Int) := by unfold wrap64; omega
              by_cases gm : 4096 < 10 * m + (b.toNat - 48)
              · have HF : Aside0 ((lenL (s.data.toList.drop n) true 0).2.2 = 102) := ⟨by rw [HA.out, if_pos gm]⟩
                have f5 : decide (10 * (m : Int) + (((b.toNat : Nat) : Int) - 48) ≤ 4096) = false := by rw [decide_eq_false_iff_not]; omega
                clear HA
                go_wp2_with (go_at_call 47; with_reducible refine (HN.out).mono ?_; rintro e w2 ⟨rfl, hc2, hb2⟩; have HC2 := Aside0.mk hc2; have HB2 := Aside0.mk (HW.out.trans hb2); clear hc2 hb2)
                go_wp2_with (go_at_call 39; with_reducible refine (must_ok 102 _).mono ?_; rintro e w3 ⟨rfl, rfl⟩)
                go_wp2_with (go_at_call 39; with_reducible refine (must_no 102 _).mono ?_; rintro e w4 ⟨rfl, rfl⟩)
                exact ⟨rfl, LenIs.no_ (r := 102) HF.out (by decide) HB2.out⟩
              · have HA3 : Aside0 (lenL (s.data.toList.drop n) true 0 = ((lenL (s.data.toList.drop (n + (q + 1))) false (10 * m + (b.toNat - 48))).1, (lenL (s.data.toList.drop (n + (q + 1))) false (10 * m + (b.toNat - 48))).2.1 + (q + 1), (lenL (s.data.toList.drop (n + (q + 1))) false (10 * m + (b.toNat - 48))).2.2)) := ⟨by
                  rw [HA.out, if_neg gm, show n + q + 1 = n + (q + 1) by omega, show ∀ x : Nat, x + 1 + q = x + (q + 1) from fun x => by omega]⟩
                have f5 : decide (10 * (m : Int) + (((b.toNat : Nat) : Int) - 48) ≤ 4096) = true := by rw [decide_eq_true_eq]; omega
                have hv : ((10 * m + (b.toNat - 48) : Nat) : Int) = 10 * (m : Int) + (((b.toNat : Nat) : Int) - 48) := by omega
                have hv2 : 10 * m + (b.toNat - 48) ≤ 4096 := by omega
                generalize 10 * m + (b.toNat - 48) = m2 at HA3 hv hv2
                clear HA gm w1 w2_ w3_
                go_wp2_with (go_at_call 47; with_reducible refine (HN.out).mono ?_; rintro e w2 ⟨rfl, hc2, hb2⟩; have HC2 := Aside0.mk hc2; have HB2 := Aside0.mk (HW.out.trans hb2); clear hc2 hb2)
                go_wp2_with (go_at_call 39; with_reducible refine (must_ok 102 _).mono ?_; rintro e w3 ⟨rfl, rfl⟩)
                go_wp2_with (go_at_call 39; with_reducible refine (must_ok 102 _).mono ?_; rintro e w4 ⟨rfl, rfl⟩)
                exact ⟨⟨m2, false, q + 1, by (try rw [hv]); (try simp); (try omega), rfl, hv2, HC2, HB2, HA3⟩, by rw [placeOf_of HC2.out, hpl]; omega⟩
          · skip
            have f1 : (((b.toNat : Nat) : Int) == 1) = false := by rw [beq_eq_false_iff_ne]; omega
            have f2 : decide ((48 : Int) ≤ ((b.toNat : Nat) : Int)) = true := by rw [decide_eq_true_eq]; omega
            have f2n : decide (48 ≤ b.toNat) = true := by rw [decide_eq_true_eq]; omega
            have f3 : decide (((b.toNat : Nat) : Int) ≤ 57) = false := by rw [decide_eq_false_iff_not]; omega
            have f3n : decide (b.toNat ≤ 57) = false := by rw [decide_eq_false_iff_not]; omega
            have HF : Aside0 ((lenL (s.data.toList.drop n) true 0).2.2 = 102) := ⟨by rw [HA.out, if_neg (by simp; try omega), if_pos (by left; unfold isDig; omega)]⟩
            clear HA
            go_wp2_with (go_at_call 47; with_reducible refine (HN.out).mono ?_; rintro e w2 ⟨rfl, hc2, hb2⟩; have HC2 := Aside0.mk hc2; have HB2 := Aside0.mk (HW.out.trans hb2); clear hc2 hb2)
            go_wp2_with (go_at_call 39; with_reducible refine (must_no 102 _).mono ?_; rintro e w3 ⟨rfl, rfl⟩)
            exact ⟨rfl, LenIs.no_ (r := 102) HF.out (by decide) HB2.out⟩
        · by_cases gx : b.toNat = 1
          · skip
            have f1 : (((b.toNat : Nat) : Int) == 1) = true := by rw [beq_iff_eq]; omega
            have f2 : decide ((48 : Int) ≤ ((b.toNat : Nat) : Int)) = false := by rw [decide_eq_false_iff_not]; omega
            have f2n : decide (48 ≤ b.toNat) = false := by rw [decide_eq_false_iff_not]; omega
            have HF : Aside0 ((lenL (s.data.toList.drop n) true 0).2.2 = 102) := ⟨by rw [HA.out, if_neg (by simp; try omega), if_pos (by left; unfold isDig; omega)]⟩
            clear HA
            go_wp2_with (go_at_call 47; with_reducible refine (HN.out).mono ?_; rintro e w2 ⟨rfl, hc2, hb2⟩; have HC2 := Aside0.mk hc2; have HB2 := Aside0.mk (HW.out.trans hb2); clear hc2 hb2)
            go_wp2_with (go_at_call 39; with_reducible refine (must_no 102 _).mono ?_; rintro e w3 ⟨rfl, rfl⟩)
            exact ⟨rfl, LenIs.no_ (r := 102) HF.out (by decide) HB2.out⟩
          · skip
            have f1 : (((b.toNat : Nat) : Int) == 1) = false := by rw [beq_eq_false_iff_ne]; omega
            have f2 : decide ((48 : Int) ≤ ((b.toNat : Nat) : Int)) = false := by rw [decide_eq_false_iff_not]; omega
            have f2n : decide (48 ≤ b.toNat) = false := by rw [decide_eq_false_iff_not]; omega
            have HF : Aside0 ((lenL (s.data.toList.drop n) true 0).2.2 = 102) := ⟨by rw [HA.out, if_neg (by simp; try omega), if_pos (by left; unfold isDig; omega)]⟩
            clear HA
            go_wp2_with (go_at_call 47; with_reducible refine (HN.out).mono ?_; rintro e w2 ⟨rfl, hc2, hb2⟩; have HC2 := Aside0.mk hc2; have HB2 := Aside0.mk (HW.out.trans hb2); clear hc2 hb2)
            go_wp2_with (go_at_call 39; with_reducible refine (must_no 102 _).mono ?_; rintro e w3 ⟨rfl, rfl⟩)
            exact ⟨rfl, LenIs.no_ (r := 102) HF.out (by decide) HB2.out⟩
      | false =>
        by_cases gx : b.toNat = 1
        · have HF : Aside0 (lenL (s.data.toList.drop n) true 0 = (m, 1 + q, 0)) := ⟨by rw [HA.out, if_pos ⟨gx, rfl⟩]⟩
          clear HA
          have f1 : (((b.toNat : Nat) : Int) == 1) = true := by rw [beq_iff_eq]; omega
          go_wp2_with (go_at_call 47; with_reducible refine (HN.out).mono ?_; rintro e w2 ⟨rfl, hc2, hb2⟩; have HC2 := Aside0.mk hc2; have HB2 := Aside0.mk (HW.out.trans hb2); clear hc2 hb2)
          go_ret
          exact LenIs.yes_ HF.out (by have := HC2.out; rwa [show n + q + 1 = n + (1 + q) by omega] at this) HB2.out
        · by_cases g1 : 48 ≤ b.toNat
          · by_cases g2 : b.toNat ≤ 57
            · skip
              by_cases g3 : b.toNat = 48
              · skip
                have f4 : (((b.toNat : Nat) : Int) != 48) = false := by rw [bne_eq_false_iff_eq]; omega
                have f1 : (((b.toNat : Nat) : Int) == 1) = false := by rw [beq_eq_false_iff_ne]; omega
                have f2 : decide ((48 : Int) ≤ ((b.toNat : Nat) : Int)) = true := by rw [decide_eq_true_eq]; omega
                have f2n : decide (48 ≤ b.toNat) = true := by rw [decide_eq_true_eq]; omega
                have f3 : decide (((b.toNat : Nat) : Int) ≤ 57) = true := by rw [decide_eq_true_eq]; omega
                have f3n : decide (b.toNat ≤ 57) = true := by rw [decide_eq_true_eq]; omega
                rw [if_neg (by simp; try omega), if_neg (by unfold isDig; simp; omega)] at HA
                have w1 : (((b.toNat : Nat) : Int) - 48) % 256 = ((b.toNat - 48 : Nat) : Int) := by omega
                have w2_ : wrap64 (10 * (m : Int)) = 10 * (m : Int) := by unfold wrap64; omega
                have w3_ : wrap64 (10 * (m : Int) + ((b.toNat - 48 : Nat) : Int)) = ((10 * m + (b.toNat - 48) : Nat) : Int) := by unfold wrap64; omega
                by_cases gm : 4096 < 10 * m + (b.toNat - 48)
                · have HF : Aside0 ((lenL (s.data.toList.drop n) true 0).2.2 = 102) := ⟨by rw [HA.out, if_pos gm]⟩
                  have f5 : decide (10 * (m : Int) + (((b.toNat : Nat) : Int) - 48) ≤ 4096) = false := by rw [decide_eq_false_iff_not]; omega
                  have f6 : decide (10 * (m : Int) ≤ 4096) = false := by rw [decide_eq_false_iff_not]; omega
                  clear HA
                  go_wp2_with (go_at_call 47; with_reducible refine (HN.out).mono ?_; rintro e w2 ⟨rfl, hc2, hb2⟩; have HC2 := Aside0.mk hc2; have HB2 := Aside0.mk (HW.out.trans hb2); clear hc2 hb2)
                  go_wp2_with (go_at_call 39; with_reducible refine (must_ok 102 _).mono ?_; rintro e w3 ⟨rfl, rfl⟩)
                  go_wp2_with (go_at_call 39; with_reducible refine (must_no 102 _).mono ?_; rintro e w4 ⟨rfl, rfl⟩)
                  exact ⟨rfl, LenIs.no_ (r := 102) HF.out (by decide) HB2.out⟩
                · have HA3 : Aside0 (lenL (s.data.toList.drop n) true 0 = ((lenL (s.data.toList.drop (n + (q + 1))) false (10 * m + (b.toNat - 48))).1, (lenL (s.data.toList.drop (n + (q + 1))) false (10 * m + (b.toNat - 48))).2.1 + (q + 1), (lenL (s.data.toList.drop (n + (q + 1))) false (10 * m + (b.toNat - 48))).2.2)) := ⟨by
                    rw [HA.out, if_neg gm, show n + q + 1 = n + (q + 1) by omega, show ∀ x : Nat, x + 1 + q = x + (q + 1) from fun x => by omega]⟩
                  have f5 : decide (10 * (m : Int) + (((b.toNat : Nat) : Int) - 48) ≤ 4096) = true := by rw [decide_eq_true_eq]; omega
                  have f6 : decide (10 * (m : Int) ≤ 4096) = true := by rw [decide_eq_true_eq]; omega
                  have hv : ((10 * m + (b.toNat - 48) : Nat) : Int) = 10 * (m : Int) + (((b.toNat : Nat) : Int) - 48) := by omega
                  have hv2 : 10 * m + (b.toNat - 48) ≤ 4096 := by omega
                  generalize 10 * m + (b.toNat - 48) = m2 at HA3 hv hv2
                  clear HA gm w1 w2_ w3_
                  go_wp2_with (go_at_call 47; with_reducible refine (HN.out).mono ?_; rintro e w2 ⟨rfl, hc2, hb2⟩; have HC2 := Aside0.mk hc2; have HB2 := Aside0.mk (HW.out.trans hb2); clear hc2 hb2)
                  go_wp2_with (go_at_call 39; with_reducible refine (must_ok 102 _).mono ?_; rintro e w3 ⟨rfl, rfl⟩)
                  go_wp2_with (go_at_call 39; with_reducible refine (must_ok 102 _).mono ?_; rintro e w4 ⟨rfl, rfl⟩)
                  exact ⟨⟨m2, false, q + 1, by (try rw [hv]); (try simp); (try omega), rfl, hv2, HC2, HB2, HA3⟩, by rw [placeOf_of HC2.out, hpl]; omega⟩
              · skip
                have f4 : (((b.toNat : Nat) : Int) != 48) = true := by rw [bne_iff_ne]; omega
                have f1 : (((b.toNat : Nat) : Int) == 1) = false := by rw [beq_eq_false_iff_ne]; omega
                have f2 : decide ((48 : Int) ≤ ((b.toNat : Nat) : Int)) = true := by rw [decide_eq_true_eq]; omega
                have f2n : decide (48 ≤ b.toNat) = true := by rw [decide_eq_true_eq]; omega
                have f3 : decide (((b.toNat : Nat) : Int) ≤ 57) = true := by rw [decide_eq_true_eq]; omega
                have f3n : decide (b.toNat ≤ 57) = true := by rw [decide_eq_true_eq]; omega
                rw [if_neg (by simp; try omega), if_neg (by unfold isDig; simp; omega)] at HA
                have w1 : (((b.toNat : Nat) : Int) - 48) % 256 = ((b.toNat - 48 : Nat) : Int) := by omega
                have w2_ : wrap64 (10 * (m : Int)) = 10 * (m : Int) := by unfold wrap64; omega
                have w3_ : wrap64 (10 * (m : Int) + ((b.toNat - 48 : Nat) : Int)) = ((10 * m + (b.toNat - 48) : Nat) : Int) := by unfold wrap64; omega
                by_cases gm : 4096 < 10 * m + (b.toNat - 48)
                · have HF : Aside0 ((lenL (s.data.toList.drop n) true 0).2.2 = 102) := ⟨by rw [HA.out, if_pos gm]⟩
                  have f5 : decide (10 * (m : Int) + (((b.toNat : Nat) : Int) - 48) ≤ 4096) = false := by rw [decide_eq_false_iff_not]; omega
                  clear HA
                  go_wp2_with (go_at_call 47; with_reducible refine (HN.out).mono ?_; rintro e w2 ⟨rfl, hc2, hb2⟩; have HC2 := Aside0.mk hc2; have HB2 := Aside0.mk (HW.out.trans hb2); clear hc2 hb2)
                  go_wp2_with (go_at_call 39; with_reducible refine (must_ok 102 _).mono ?_; rintro e w3 ⟨rfl, rfl⟩)
                  go_wp2_with (go_at_call 39; with_reducible refine (must_no 102 _).mono ?_; rintro e w4 ⟨rfl, rfl⟩)
                  exact ⟨rfl, LenIs.no_ (r := 102) HF.out (by decide) HB2.out⟩
                · have HA3 : Aside0 (lenL (s.data.toList.drop n) true 0 = ((lenL (s.data.toList.drop (n + (q + 1))) false (10 * m + (b.toNat - 48))).1, (lenL (s.data.toList.drop (n + (q + 1))) false (10 * m + (b.toNat - 48))).2.1 + (q + 1), (lenL (s.data.toList.drop (n + (q + 1))) false (10 * m + (b.toNat - 48))).2.2)) := ⟨by
                    rw [HA.out, if_neg gm, show n + q + 1 = n + (q + 1) by omega, show ∀ x : Nat, x + 1 + q = x + (q + 1) from fun x => by omega]⟩
                  have f5 : decide (10 * (m : Int) + (((b.toNat : Nat) : Int) - 48) ≤ 4096) = true := by rw [decide_eq_true_eq]; omega
                  have hv : ((10 * m + (b.toNat - 48) : Nat) : Int) = 10 * (m : Int) + (((b.toNat : Nat) : Int) - 48) := by omega
                  have hv2 : 10 * m + (b.toNat - 48) ≤ 4096 := by omega
                  generalize 10 * m + (b.toNat - 48) = m2 at HA3 hv hv2
                  clear HA gm w1 w2_ w3_
                  go_wp2_with (go_at_call 47; with_reducible refine (HN.out).mono ?_; rintro e w2 ⟨rfl, hc2, hb2⟩; have HC2 := Aside0.mk hc2; have HB2 := Aside0.mk (HW.out.trans hb2); clear hc2 hb2)
                  go_wp2_with (go_at_call 39; with_reducible refine (must_ok 102 _).mono ?_; rintro e w3 ⟨rfl, rfl⟩)
                  go_wp2_with (go_at_call 39; with_reducible refine (must_ok 102 _).mono ?_; rintro e w4 ⟨rfl, rfl⟩)
                  exact ⟨⟨m2, false, q + 1, by (try rw [hv]); (try simp); (try omega), rfl, hv2, HC2, HB2, HA3⟩, by rw [placeOf_of HC2.out, hpl]; omega⟩
            · skip
              have f1 : (((b.toNat : Nat) : Int) == 1) = false := by rw [beq_eq_false_iff_ne]; omega
              have f2 : decide ((48 : Int) ≤ ((b.toNat : Nat) : Int)) = true := by rw [decide_eq_true_eq]; omega
              have f2n : decide (48 ≤ b.toNat) = true := by rw [decide_eq_true_eq]; omega
              have f3 : decide (((b.toNat : Nat) : Int) ≤ 57) = false := by rw [decide_eq_false_iff_not]; omega
              have f3n : decide (b.toNat ≤ 57) = false := by rw [decide_eq_false_iff_not]; omega
              have HF : Aside0 ((lenL (s.data.toList.drop n) true 0).2.2 = 102) := ⟨by rw [HA.out, if_neg (by simp; try omega), if_pos (by left; unfold isDig; omega)]⟩
              clear HA
              go_wp2_with (go_at_call 47; with_reducible refine (HN.out).mono ?_; rintro e w2 ⟨rfl, hc2, hb2⟩; have HC2 := Aside0.mk hc2; have HB2 := Aside0.mk (HW.out.trans hb2); clear hc2 hb2)
              go_wp2_with (go_at_call 39; with_reducible refine (must_no 102 _).mono ?_; rintro e w3 ⟨rfl, rfl⟩)
              exact ⟨rfl, LenIs.no_ (r := 102) HF.out (by decide) HB2.out⟩
          · skip
            have f1 : (((b.toNat : Nat) : Int) == 1) = false := by rw [beq_eq_false_iff_ne]; omega
            have f2 : decide ((48 : Int) ≤ ((b.toNat : Nat) : Int)) = false := by rw [decide_eq_false_iff_not]; omega
            have f2n : decide (48 ≤ b.toNat) = false := by rw [decide_eq_false_iff_not]; omega
            have HF : Aside0 ((lenL (s.data.toList.drop n) true 0).2.2 = 102) := ⟨by rw [HA.out, if_neg (by simp; try omega), if_pos (by left; unfold isDig; omega)]⟩
            clear HA
            go_wp2_with (go_at_call 47; with_reducible refine (HN.out).mono ?_; rintro e w2 ⟨rfl, hc2, hb2⟩; have HC2 := Aside0.mk hc2; have HB2 := Aside0.mk (HW.out.trans hb2); clear hc2 hb2)
            go_wp2_with (go_at_call 39; with_reducible refine (must_no 102 _).mono ?_; rintro e w3 ⟨rfl, rfl⟩)
            exact ⟨rfl, LenIs.no_ (r := 102) HF.out (by decide) HB2.out⟩
    · have HF : Aside0 ((lenL (s.data.toList.drop n) true 0).2.2 = 100) := ⟨by
        rw [HA.out, List.drop_eq_nil_of_le (show s.data.toList.length ≤ n + q by have : s.data.toList.length = s.size := rfl; omega)]; rfl⟩
      clear HA
      go_wp2_with (go_at_call 47; with_reducible refine (next_none g s (n + q) _ HC.out (by omega)).mono ?_; rintro e w2 ⟨rfl, hb2⟩; have HB2 := Aside0.mk (HW.out.trans hb2); clear hb2)
      exact ⟨rfl, LenIs.no_ (r := 100) HF.out (by decide) HB2.out⟩
def begB : ByteArray := ⟨#[56, 61, 70, 73, 88, 46, 52, 46, 52, 1, 57, 61]⟩
theorem openL_word {l : List UInt8} (h : wordL begL l ≠ 0) : openL l = ([], 0, wordL begL l) := by unfold openL; rw [if_pos h]
theorem openL_len {l : List UInt8} (h0 : wordL begL l = 0) (h : (lenL (l.drop 12) true 0).2.2 ≠ 0) : openL l = ([], 0, (lenL (l.drop 12) true 0).2.2) := by
  unfold openL; simp only; rw [if_neg (by simpa using h0), if_pos h]
theorem drop_list_o (s : ByteArray) (n : Nat) : (s.extract n s.size).data.toList = s.data.toList.drop n := by
  simp [ByteArray.data_extract]
  rw [List.take_of_length_le (by simp)]
theorem take_list_o (s : ByteArray) (n : Nat) : (s.extract 0 n).data.toList = s.data.toList.take n := by
  simp [ByteArray.data_extract]
theorem mid_list_o (s : ByteArray) (a b : Nat) : (s.extract a b).data.toList = (s.data.toList.drop a).take (b - a) := by
  simp [ByteArray.data_extract]
theorem Cur.drewN {g : Nat} {s : ByteArray} {n : Nat} {w : World} (h : Cur g s n w) (q : Nat) : Cur g s n (w.drewN q) := ⟨h.text, h.place, h.live⟩
theorem Cur.lt {g : Nat} {s : ByteArray} {n : Nat} {w : World} (h : Cur g s n w) : g < w.heap.size := World.block_lt_of_cell? w _ h.text
theorem Cur.keep {g : Nat} {s : ByteArray} {n : Nat} {w w' : World} (h : Cur g s n w) (hb : Below w.heap.size w w') : Cur g s n w' :=
  ⟨(hb.cell (p := ⟨g, 0, none⟩) h.lt).trans h.text, (hb.cell (p := ⟨g, 1, none⟩) h.lt).trans h.place, (hb.frozen (p := ⟨g, 1, none⟩) h.lt).trans h.live⟩
theorem Cur.low {g : Nat} {s : ByteArray} {n : Nat} {w w' W : World} (h : Cur g s n w) (hB : Below g W w) (hb : Below w.heap.size w w') : Below g W w' := hB.trans (hb.mono (Nat.le_of_lt h.lt))
/-- The trailer that is looked for. -/
def trailB (h : ByteArray) : ByteArray := ((⟨#[49, 48, 61]⟩ : ByteArray) ++ threeOf (sumOf h)) ++ ⟨#[1]⟩
theorem trailB_list (h : ByteArray) : (trailB h).data.toList = trailL h.data.toList := by
  have hm : bsum h.data.toList % 256 < 256 := Nat.mod_lt _ (by decide)
  unfold trailB trailL threeOf threeL sumOf
  simp only [ByteArray.data_append, Array.toList_append, strOfNums_list, List.map_cons, List.map_nil]
  generalize bsum h.data.toList % 256 = m at hm
  have e1 : ((48 : Int) + (m : Int) / 100).toNat = 48 + m / 100 := by omega
  have e2 : ((48 : Int) + (m : Int) / 10 % 10).toNat = 48 + m / 10 % 10 := by omega
  have e3 : ((48 : Int) + (m : Int) % 10).toNat = 48 + m % 10 := by omega
  rw [e1, e2, e3]
  simp
theorem trailB_size (h : ByteArray) : (trailB h).size = 7 := by
  have : (trailB h).data.toList.length = 7 := by rw [trailB_list]; exact trailL_len _
  exact this
theorem hasPrefix_ (a b : ByteArray) : strings_HasPrefix.f a b = some (decide (a.data.toList.take b.size = b.data.toList)) := by
  unfold strings_HasPrefix.f stringslite_HasPrefix.f
  by_cases c : b.size ≤ a.size
  · rw [if_pos (by omega), if_pos (by omega), if_pos (by omega), ByteArray.toList_eq, ByteArray.toList_eq, Int.toNat_natCast, take_list_o]
    simp only [Option.bind_some]
    congr 1
    rw [Bool.eq_iff_iff]; simp
  · rw [if_neg (by omega)]
    have : ¬ a.data.toList.take b.size = b.data.toList := fun h => by
      have h2 := congrArg List.length h
      rw [List.length_take] at h2
      have e1 : a.data.toList.length = a.size := rfl
      have e2 : b.data.toList.length = b.size := rfl
      omega
    rw [decide_eq_false this]; rfl
theorem sumOf_ok (h : ByteArray) (hs : h.size ≤ big) : sum_Sum.f h = some (sumOf h) := by unfold sum_Sum.f; rw [if_pos hs]
theorem three_ok (h : ByteArray) : sum_Three.f (sumOf h) = some (threeOf (sumOf h), 0) := by
  unfold sum_Three.f sumOf; rw [if_pos (by omega)]
/-- message: the body, the cursor behind it; or what is thrown. -/
def MsgIs (g : Nat) (s : ByteArray) (W : World) (en : Ending) (w' : World) : Prop :=
  ((openL s.data.toList).2.2 = 0 ∧ en = .returned (.string ⟨(openL s.data.toList).1.toArray⟩) ∧ Cur g s (openL s.data.toList).2.1 w' ∧ Below g W w') ∨
  ((openL s.data.toList).2.2 ≠ 0 ∧ en = .panicked [{ v := faultV ((openL s.data.toList).2.2 : Int), recovered := false }] ∧ Below g W w')
theorem MsgIs.no_ {g r : Nat} {s : ByteArray} {W w' : World} (h : (openL s.data.toList).2.2 = r) (hr : r ≠ 0) (hb : Below g W w') : MsgIs g s W (.panicked [{ v := faultV (r : Int), recovered := false }]) w' := by
  subst h; exact .inr ⟨hr, rfl, hb⟩
theorem MsgIs.yes_ {g n : Nat} {s b : ByteArray} {W w' : World} (h : openL s.data.toList = (b.data.toList, n, 0)) (hc : Cur g s n w') (hb : Below g W w') : MsgIs g s W (.returned (.string b)) w' := by
  refine .inl ⟨by rw [h], ?_, by rw [h]; exact hc, hb⟩
  rw [h]
set_option maxRecDepth 100000 in
set_option maxHeartbeats 4000000 in
theorem message_walk (g : Nat) (s : ByteArray) (W : World) (h : Cur g s 0 W) (hs : s.size ≤ 1152921504606846976) :
    Calls Tryd.prog 26 #[.pointer (some ⟨g, 0, none⟩)] W (MsgIs g s W) := by
  have HWd := Aside0.mk (word_walk g s begB 0 W h (by omega) (by decide))
  unfold WordIs at HWd
  rw [List.drop_zero, show begB.data.toList = begL from rfl] at HWd
  by_cases c1 : wordL begL s.data.toList = 0
  · have HWd1 : Aside0 (Calls Tryd.prog 37 #[.pointer (some ⟨g, 0, none⟩), .string begB, .int .i64 101] W fun en w' => en = .returned (.tuple #[]) ∧ Cur g s 12 w' ∧ Below g W w') := ⟨HWd.out.mono fun en w' hh => by
      rcases hh with ⟨_, h2, h3, h4⟩ | ⟨h1, _⟩
      · exact ⟨h2, h3, h4⟩
      · exact absurd c1 h1⟩
    clear HWd
    by_cases c2 : (lenL (s.data.toList.drop 12) true 0).2.2 = 0
    · have HLn : Aside0 (∀ w, Cur g s 12 w → Calls Tryd.prog 38 #[.pointer (some ⟨g, 0, none⟩)] w fun en w' => en = .returned (.int .i64 ((lenL (s.data.toList.drop 12) true 0).1 : Int)) ∧ Cur g s (12 + (lenL (s.data.toList.drop 12) true 0).2.1) w' ∧ Below g w w') := ⟨fun w hc => (length_walk g s 12 w hc (by omega)).mono fun en w' hh => by
        rcases hh with ⟨_, h2, h3, h4⟩ | ⟨h1, _⟩
        · exact ⟨h2, h3, h4⟩
        · exact absurd c2 h1⟩
      obtain ⟨-, d2, d3, -, d5⟩ := lenL_digits _ c2
      rw [List.length_drop] at d5
      by_cases c3 : s.data.toList.length < 12 + (lenL (s.data.toList.drop 12) true 0).2.1 + (lenL (s.data.toList.drop 12) true 0).1 + 7
      · have HF : Aside0 ((openL s.data.toList).2.2 = 100) := ⟨by unfold openL; simp only; rw [if_neg (by simpa using c1), if_neg (by simpa using c2), if_pos c3]⟩
        have hsl : s.data.toList.length = s.size := rfl
        rw [hsl] at c3 d5
        have hge : 12 ≤ s.size := by
          have := congrArg List.length (wordL_take _ _ c1)
          rw [List.length_take, hsl] at this
          have e : begL.length = 12 := rfl
          omega
        clear hsl
        generalize (lenL (s.data.toList.drop 12) true 0).2.1 = k at *
        generalize (lenL (s.data.toList.drop 12) true 0).1 = n at *
        have t1 : decide ((s.size : Int) - ((12 + k : Nat) : Int) ≥ (n : Int) + 7) = false := by rw [decide_eq_false_iff_not]; omega
        have t2 : decide ((n : Int) + 7 ≤ (s.size : Int) - ((12 + k : Nat) : Int)) = false := by rw [decide_eq_false_iff_not]; omega
        have t3 : decide ((n : Int) + 7 ≤ (s.size : Int) - (12 + (k : Int))) = false := by rw [decide_eq_false_iff_not]; omega
        unfold begB at HWd1
        go_enter Tryd.func26, Tryd.ntmps26
        go_wp2_with (go_at_call 37; with_reducible refine (HWd1.out).mono ?_; rintro e w1 ⟨rfl, hc1, hb1⟩; have HC1 := Aside0.mk hc1; have HB1 := Aside0.mk hb1; clear hc1 hb1)
        go_wp2_with (go_at_call 38; with_reducible refine (HLn.out _ HC1.out).mono ?_; rintro e w2 ⟨rfl, hc2, hb2⟩; have HC2 := Aside0.mk hc2; have hk0 := hc2.text; have hk1 := hc2.place; have hk2 := hc2.live; have HB2 := Aside0.mk (HB1.out.trans hb2); clear hb2 hc2)
        go_still_tail 13, (by kernel_rfl)
        change wpList _ _ _ _ _ w2.drew
        go_wp2_with (go_at_call 39; rw [t3]; with_reducible refine (must_no 100 _).mono ?_; rintro e w3 ⟨rfl, rfl⟩)
        exact ⟨rfl, MsgIs.no_ (r := 100) HF.out (by decide) HB2.out.drew⟩
      · have hsl : s.data.toList.length = s.size := rfl
        rw [hsl] at c3 d5
        have hn0 : 12 + (lenL (s.data.toList.drop 12) true 0).2.1 + (lenL (s.data.toList.drop 12) true 0).1 + 7 ≤ s.size := by omega
        generalize c2k : (lenL (s.data.toList.drop 12) true 0).2.1 = k at *
        generalize c2n : (lenL (s.data.toList.drop 12) true 0).1 = n at *
        have t1 : decide ((n : Int) + 7 ≤ (s.size : Int) - (12 + (k : Int))) = true := by rw [decide_eq_true_eq]; omega
        have b1 : (12 + (k : Int) + (n : Int)) ≤ (s.size : Int) := by omega
        have b2 : (0 : Int) ≤ 12 + (k : Int) := by omega
        have b3 : (0 : Int) ≤ 12 + (k : Int) + (n : Int) := by omega
        have b4 : 12 + (k : Int) ≤ 12 + (k : Int) + (n : Int) := by omega
        unfold begB at HWd1
        have hsb : s.size ≤ big := by unfold big; omega
        have HS : Aside0 (sum_Sum.f (s.extract 0 (12 + k + n)) = some (sumOf (s.extract 0 (12 + k + n)))) := ⟨sumOf_ok _ (by rw [ByteArray.size_extract]; omega)⟩
        have HT : Aside0 (sum_Three.f (sumOf (s.extract 0 (12 + k + n))) = some (threeOf (sumOf (s.extract 0 (12 + k + n))), 0)) := ⟨three_ok _⟩
        have htr : (trailB (s.extract 0 (12 + k + n))).data.toList = trailL (s.data.toList.take (12 + k + n)) := by rw [trailB_list, take_list_o]
        have htz : (trailB (s.extract 0 (12 + k + n))).size = 7 := trailB_size _
        have hpre : strings_HasPrefix.f (s.extract (12 + k + n) s.size) (trailB (s.extract 0 (12 + k + n))) = some (decide ((s.data.toList.drop (12 + k + n)).take 7 = trailL (s.data.toList.take (12 + k + n)))) := by
          rw [hasPrefix_, htr, htz, drop_list_o]
        clear htr htz
        have b5 : (12 + (k : Int) + (n : Int)) = ((12 + k + n : Nat) : Int) := by omega
        by_cases c4 : (s.data.toList.drop (12 + k + n)).take 7 = trailL (s.data.toList.take (12 + k + n))
        · rw [decide_eq_true c4] at hpre
          have HP : Aside0 (strings_HasPrefix.f (s.extract (12 + k + n) s.size) (((⟨#[49, 48, 61]⟩ : ByteArray) ++ threeOf (sumOf (s.extract 0 (12 + k + n)))) ++ ⟨#[1]⟩) = some true) := ⟨hpre⟩
          clear hpre
          have hz3 : (threeOf (sumOf (s.extract 0 (12 + k + n)))).size = 3 := rfl
          generalize threeOf (sumOf (s.extract 0 (12 + k + n))) = tz at HT HP hz3
          have m1 : (9223372036854775807 < 3 + tz.size) = False := eq_false (by omega)
          have m2 : (9223372036854775807 < ((⟨#[49, 48, 61]⟩ : ByteArray) ++ tz).size + 1) = False := eq_false (by rw [ByteArray.size_append, hz3]; exact (by decide : ¬ 9223372036854775807 < 3 + 3 + 1))
          have m3 : (9223372036854775807 < 3 + tz.size + 1) = False := eq_false (by omega)
          clear hz3
          generalize sumOf (s.extract 0 (12 + k + n)) = sz at HS HT
          by_cases c5 : (fieldsL ((s.data.toList.drop (12 + k)).take n) 0 0).2.2 = 0
          · skip
            have hbl : (s.extract (12 + k) (12 + k + n)).data.toList = (s.data.toList.drop (12 + k)).take n := by rw [mid_list_o, show 12 + k + n - (12 + k) = n by omega]
            have hbz : (s.extract (12 + k) (12 + k + n)).size ≤ big := by rw [ByteArray.size_extract]; omega
            have hfd : tag_Fields.f (s.extract (12 + k) (12 + k + n)) = some ((fieldsL ((s.data.toList.drop (12 + k)).take n) 0 0).1.map mkF, ((fieldsL ((s.data.toList.drop (12 + k)).take n) 0 0).2.1 : Int), ((fieldsL ((s.data.toList.drop (12 + k)).take n) 0 0).2.2 : Int)) := by unfold tag_Fields.f; rw [if_pos hbz, hbl]
            have HO : Aside0 (openL s.data.toList = ((s.extract (12 + k) (12 + k + n)).data.toList, 12 + k + n + 7, 0)) := ⟨by
              unfold openL; simp only; rw [if_neg (by simpa using c1), if_neg (by simpa using c2), c2n, c2k, if_neg (by rw [hsl]; exact c3), if_neg (by simpa using c4), if_neg (by simpa using c5), hbl]⟩
            rw [c5] at hfd
            have HFd := Aside0.mk hfd
            clear hfd hbz c4 c5
            generalize (fieldsL ((s.data.toList.drop (12 + k)).take n) 0 0).1.map mkF = fx at HFd
            generalize ((fieldsL ((s.data.toList.drop (12 + k)).take n) 0 0).2.1 : Int) = fp at HFd
            clear hbl
            go_enter Tryd.func26, Tryd.ntmps26
            go_wp2_with (go_at_call 37; with_reducible refine (HWd1.out).mono ?_; rintro e w1 ⟨rfl, hc1, hb1⟩; have HC1 := Aside0.mk hc1; have HB1 := Aside0.mk hb1; clear hc1 hb1)
            go_wp2_with (go_at_call 38; with_reducible refine (HLn.out _ HC1.out).mono ?_; rintro e w2 ⟨rfl, hc2, hb2⟩; have HC2 := Aside0.mk hc2; have hk0 := hc2.text; have hk1 := hc2.place; have hk2 := hc2.live; have HB2 := Aside0.mk (HB1.out.trans hb2); clear hb2 hc2)
            have HQ : Aside0 (∀ q, Cur g s (12 + k + n) ((w2.drewN q).setCell ⟨g, 1, none⟩ (.int .i64 (12 + (k : Int) + (n : Int)))) ∧ Below g W ((w2.drewN q).setCell ⟨g, 1, none⟩ (.int .i64 (12 + (k : Int) + (n : Int))))) := ⟨fun q => ⟨by rw [b5]; exact (HC2.out.drewN q).set _, (Below.drewN_ HB2.out q).setCell (Nat.le_refl g) _⟩⟩
            have HE := Aside0.mk b5
            clear b5
            go_still_tail 13, (by kernel_rfl)
            change wpList _ _ _ _ _ w2.drew
            go_wp2_with (go_at_call 39; rw [t1]; with_reducible refine (must_ok 100 _).mono ?_; rintro e w3 ⟨rfl, rfl⟩)
            go_quiet (fail)
            go_wp2_with (first | (go_at_call 22; with_reducible refine (sum_Sum.calls _ _ _ HS.out).mono ?_; rintro e w4 ⟨rfl, hd⟩; have HC4 := Aside0.mk ((HQ.out _).1.keep hd.below); have HB4 := Aside0.mk ((HQ.out _).1.low (HQ.out _).2 hd.below); clear hd) | (go_at_call 21; with_reducible refine (sum_Three.calls _ _ _ _ HT.out).mono ?_; rintro e w5 ⟨rfl, hb⟩; have HC5 := Aside0.mk (HC4.out.keep hb); have HB5 := Aside0.mk (HC4.out.low HB4.out hb); clear hb; have hk3 := HC5.out.text; have hk4 := HC5.out.place; rw [← HE.out] at hk4; have hk5 := HC5.out.live))
            go_still_tail 12, (by kernel_rfl)
            change wpList _ _ _ _ _ w5.drew
            go_wp2_with (first | (go_at_call 40; with_reducible refine (strings_HasPrefix.calls _ _ _ _ HP.out).mono ?_; rintro e w6 ⟨rfl, hd6⟩; have HC6 := Aside0.mk (HC5.out.drew.keep hd6.below); have hk6 := HC6.out.text; have hk7 := HC6.out.place; rw [← HE.out] at hk7; have hk8 := HC6.out.live; have HB6 := Aside0.mk (HC5.out.drew.low HB5.out.drew hd6.below); clear hd6) | (go_at_call 39; with_reducible refine (must_ok 103 _).mono ?_; rintro e w7 ⟨rfl, rfl⟩))
            have HQ7 : Aside0 (Cur g s (12 + k + n + 7) (w7.setCell ⟨g, 1, none⟩ (.int .i64 (12 + (k : Int) + (n : Int) + 7))) ∧ Below g W (w7.setCell ⟨g, 1, none⟩ (.int .i64 (12 + (k : Int) + (n : Int) + 7)))) := ⟨by
              have h7 := HC6.out.set (12 + k + n + 7)
              rw [show (((12 + k + n + 7 : Nat)) : Int) = 12 + (k : Int) + (n : Int) + 7 by omega] at h7
              exact ⟨h7, HB6.out.setCell (Nat.le_refl g) _⟩⟩
            go_wp2_with (first | (go_at_call 20; with_reducible refine (tag_Fields.calls _ _ _ _ _ HFd.out).mono ?_; rintro e w8 ⟨vf, rfl, -, hb8⟩; have HC8 := Aside0.mk (HQ7.out.1.keep hb8); have HB8 := Aside0.mk (HQ7.out.1.low HQ7.out.2 hb8); clear hb8) | (go_at_call 39; with_reducible refine (must_ok 0 _).mono ?_; rintro e w9 ⟨rfl, rfl⟩))
            go_ret
            exact MsgIs.yes_ HO.out HC8.out HB8.out
          · skip
            have hbl : (s.extract (12 + k) (12 + k + n)).data.toList = (s.data.toList.drop (12 + k)).take n := by rw [mid_list_o, show 12 + k + n - (12 + k) = n by omega]
            have hbz : (s.extract (12 + k) (12 + k + n)).size ≤ big := by rw [ByteArray.size_extract]; omega
            have hfd : tag_Fields.f (s.extract (12 + k) (12 + k + n)) = some ((fieldsL ((s.data.toList.drop (12 + k)).take n) 0 0).1.map mkF, ((fieldsL ((s.data.toList.drop (12 + k)).take n) 0 0).2.1 : Int), ((fieldsL ((s.data.toList.drop (12 + k)).take n) 0 0).2.2 : Int)) := by unfold tag_Fields.f; rw [if_pos hbz, hbl]
            have HF : Aside0 ((openL s.data.toList).2.2 = (fieldsL ((s.data.toList.drop (12 + k)).take n) 0 0).2.2) := ⟨by
              unfold openL; simp only; rw [if_neg (by simpa using c1), if_neg (by simpa using c2), c2n, c2k, if_neg (by rw [hsl]; exact c3), if_neg (by simpa using c4), if_pos (by simpa using c5)]⟩
            generalize (fieldsL ((s.data.toList.drop (12 + k)).take n) 0 0).2.2 = r at hfd HF c5
            have HFd := Aside0.mk hfd
            clear hfd hbz c4
            generalize (fieldsL ((s.data.toList.drop (12 + k)).take n) 0 0).1.map mkF = fx at HFd
            generalize ((fieldsL ((s.data.toList.drop (12 + k)).take n) 0 0).2.1 : Int) = fp at HFd
            clear hbl
            have tr : (((r : Nat) : Int) == 0) = false := by rw [beq_eq_false_iff_ne]; omega
            go_enter Tryd.func26, Tryd.ntmps26
            go_wp2_with (go_at_call 37; with_reducible refine (HWd1.out).mono ?_; rintro e w1 ⟨rfl, hc1, hb1⟩; have HC1 := Aside0.mk hc1; have HB1 := Aside0.mk hb1; clear hc1 hb1)
            go_wp2_with (go_at_call 38; with_reducible refine (HLn.out _ HC1.out).mono ?_; rintro e w2 ⟨rfl, hc2, hb2⟩; have HC2 := Aside0.mk hc2; have hk0 := hc2.text; have hk1 := hc2.place; have hk2 := hc2.live; have HB2 := Aside0.mk (HB1.out.trans hb2); clear hb2 hc2)
            have HQ : Aside0 (∀ q, Cur g s (12 + k + n) ((w2.drewN q).setCell ⟨g, 1, none⟩ (.int .i64 (12 + (k : Int) + (n : Int)))) ∧ Below g W ((w2.drewN q).setCell ⟨g, 1, none⟩ (.int .i64 (12 + (k : Int) + (n : Int))))) := ⟨fun q => ⟨by rw [b5]; exact (HC2.out.drewN q).set _, (Below.drewN_ HB2.out q).setCell (Nat.le_refl g) _⟩⟩
            have HE := Aside0.mk b5
            clear b5
            go_still_tail 13, (by kernel_rfl)
            change wpList _ _ _ _ _ w2.drew
            go_wp2_with (go_at_call 39; rw [t1]; with_reducible refine (must_ok 100 _).mono ?_; rintro e w3 ⟨rfl, rfl⟩)
            go_quiet (fail)
            go_wp2_with (first | (go_at_call 22; with_reducible refine (sum_Sum.calls _ _ _ HS.out).mono ?_; rintro e w4 ⟨rfl, hd⟩; have HC4 := Aside0.mk ((HQ.out _).1.keep hd.below); have HB4 := Aside0.mk ((HQ.out _).1.low (HQ.out _).2 hd.below); clear hd) | (go_at_call 21; with_reducible refine (sum_Three.calls _ _ _ _ HT.out).mono ?_; rintro e w5 ⟨rfl, hb⟩; have HC5 := Aside0.mk (HC4.out.keep hb); have HB5 := Aside0.mk (HC4.out.low HB4.out hb); clear hb; have hk3 := HC5.out.text; have hk4 := HC5.out.place; rw [← HE.out] at hk4; have hk5 := HC5.out.live))
            go_still_tail 12, (by kernel_rfl)
            change wpList _ _ _ _ _ w5.drew
            go_wp2_with (first | (go_at_call 40; with_reducible refine (strings_HasPrefix.calls _ _ _ _ HP.out).mono ?_; rintro e w6 ⟨rfl, hd6⟩; have HC6 := Aside0.mk (HC5.out.drew.keep hd6.below); have hk6 := HC6.out.text; have hk7 := HC6.out.place; rw [← HE.out] at hk7; have hk8 := HC6.out.live; have HB6 := Aside0.mk (HC5.out.drew.low HB5.out.drew hd6.below); clear hd6) | (go_at_call 39; with_reducible refine (must_ok 103 _).mono ?_; rintro e w7 ⟨rfl, rfl⟩))
            have HQ7 : Aside0 (Cur g s (12 + k + n + 7) (w7.setCell ⟨g, 1, none⟩ (.int .i64 (12 + (k : Int) + (n : Int) + 7))) ∧ Below g W (w7.setCell ⟨g, 1, none⟩ (.int .i64 (12 + (k : Int) + (n : Int) + 7)))) := ⟨by
              have h7 := HC6.out.set (12 + k + n + 7)
              rw [show (((12 + k + n + 7 : Nat)) : Int) = 12 + (k : Int) + (n : Int) + 7 by omega] at h7
              exact ⟨h7, HB6.out.setCell (Nat.le_refl g) _⟩⟩
            go_wp2_with (first | (go_at_call 20; with_reducible refine (tag_Fields.calls _ _ _ _ _ HFd.out).mono ?_; rintro e w8 ⟨vf, rfl, -, hb8⟩; have HB8 := Aside0.mk (HQ7.out.1.low HQ7.out.2 hb8); clear hb8) | (go_at_call 39; with_reducible refine (must_no _ _).mono ?_; rintro e w9 ⟨rfl, rfl⟩))
            exact ⟨rfl, MsgIs.no_ HF.out c5 HB8.out⟩
        · have HF : Aside0 ((openL s.data.toList).2.2 = 103) := ⟨by
            unfold openL; simp only; rw [if_neg (by simpa using c1), if_neg (by simpa using c2), c2n, c2k, if_neg (by rw [hsl]; exact c3), if_pos c4]⟩
          rw [decide_eq_false c4] at hpre
          have HP : Aside0 (strings_HasPrefix.f (s.extract (12 + k + n) s.size) (((⟨#[49, 48, 61]⟩ : ByteArray) ++ threeOf (sumOf (s.extract 0 (12 + k + n)))) ++ ⟨#[1]⟩) = some false) := ⟨hpre⟩
          clear hpre c4
          have hz3 : (threeOf (sumOf (s.extract 0 (12 + k + n)))).size = 3 := rfl
          generalize threeOf (sumOf (s.extract 0 (12 + k + n))) = tz at HT HP hz3
          have m1 : (9223372036854775807 < 3 + tz.size) = False := eq_false (by omega)
          have m2 : (9223372036854775807 < ((⟨#[49, 48, 61]⟩ : ByteArray) ++ tz).size + 1) = False := eq_false (by rw [ByteArray.size_append, hz3]; exact (by decide : ¬ 9223372036854775807 < 3 + 3 + 1))
          have m3 : (9223372036854775807 < 3 + tz.size + 1) = False := eq_false (by omega)
          clear hz3
          generalize sumOf (s.extract 0 (12 + k + n)) = sz at HS HT
          go_enter Tryd.func26, Tryd.ntmps26
          go_wp2_with (go_at_call 37; with_reducible refine (HWd1.out).mono ?_; rintro e w1 ⟨rfl, hc1, hb1⟩; have HC1 := Aside0.mk hc1; have HB1 := Aside0.mk hb1; clear hc1 hb1)
          go_wp2_with (go_at_call 38; with_reducible refine (HLn.out _ HC1.out).mono ?_; rintro e w2 ⟨rfl, hc2, hb2⟩; have HC2 := Aside0.mk hc2; have hk0 := hc2.text; have hk1 := hc2.place; have hk2 := hc2.live; have HB2 := Aside0.mk (HB1.out.trans hb2); clear hb2 hc2)
          have HQ : Aside0 (∀ q, Cur g s (12 + k + n) ((w2.drewN q).setCell ⟨g, 1, none⟩ (.int .i64 (12 + (k : Int) + (n : Int)))) ∧ Below g W ((w2.drewN q).setCell ⟨g, 1, none⟩ (.int .i64 (12 + (k : Int) + (n : Int))))) := ⟨fun q => ⟨by rw [b5]; exact (HC2.out.drewN q).set _, (Below.drewN_ HB2.out q).setCell (Nat.le_refl g) _⟩⟩
          have HE := Aside0.mk b5
          clear b5
          go_still_tail 13, (by kernel_rfl)
          change wpList _ _ _ _ _ w2.drew
          go_wp2_with (go_at_call 39; rw [t1]; with_reducible refine (must_ok 100 _).mono ?_; rintro e w3 ⟨rfl, rfl⟩)
          go_quiet (fail)
          go_wp2_with (first | (go_at_call 22; with_reducible refine (sum_Sum.calls _ _ _ HS.out).mono ?_; rintro e w4 ⟨rfl, hd⟩; have HC4 := Aside0.mk ((HQ.out _).1.keep hd.below); have HB4 := Aside0.mk ((HQ.out _).1.low (HQ.out _).2 hd.below); clear hd) | (go_at_call 21; with_reducible refine (sum_Three.calls _ _ _ _ HT.out).mono ?_; rintro e w5 ⟨rfl, hb⟩; have HC5 := Aside0.mk (HC4.out.keep hb); have HB5 := Aside0.mk (HC4.out.low HB4.out hb); clear hb; have hk3 := HC5.out.text; have hk4 := HC5.out.place; rw [← HE.out] at hk4; have hk5 := HC5.out.live))
          go_still_tail 12, (by kernel_rfl)
          change wpList _ _ _ _ _ w5.drew
          go_wp2_with (first | (go_at_call 40; with_reducible refine (strings_HasPrefix.calls _ _ _ _ HP.out).mono ?_; rintro e w6 ⟨rfl, hd6⟩; have HB6 := Aside0.mk (HC5.out.drew.low HB5.out.drew hd6.below); clear hd6) | (go_at_call 39; with_reducible refine (must_no 103 _).mono ?_; rintro e w7 ⟨rfl, rfl⟩))
          exact ⟨rfl, MsgIs.no_ (r := 103) HF.out (by decide) HB6.out⟩
    · have HF : Aside0 ((openL s.data.toList).2.2 = (lenL (s.data.toList.drop 12) true 0).2.2) := ⟨by rw [openL_len c1 c2]⟩
      have HLn : Aside0 (∀ w, Cur g s 12 w → Calls Tryd.prog 38 #[.pointer (some ⟨g, 0, none⟩)] w fun en w' => en = .panicked [{ v := faultV ((lenL (s.data.toList.drop 12) true 0).2.2 : Int), recovered := false }] ∧ Below g w w') := ⟨fun w hc => (length_walk g s 12 w hc (by omega)).mono fun en w' hh => by
        rcases hh with ⟨h1, _⟩ | ⟨_, h2, h3⟩
        · exact absurd h1 c2
        · exact ⟨h2, h3⟩⟩
      generalize (lenL (s.data.toList.drop 12) true 0).2.2 = r at *
      unfold begB at HWd1
      go_enter Tryd.func26, Tryd.ntmps26
      go_wp2_with (go_at_call 37; with_reducible refine (HWd1.out).mono ?_; rintro e w1 ⟨rfl, hc1, hb1⟩; have HC1 := Aside0.mk hc1; have HB1 := Aside0.mk hb1; clear hc1 hb1)
      go_wp2_with (go_at_call 38; with_reducible refine (HLn.out _ HC1.out).mono ?_; rintro e w2 ⟨rfl, hb2⟩; have HB2 := Aside0.mk (HB1.out.trans hb2); clear hb2)
      exact ⟨rfl, MsgIs.no_ HF.out c2 HB2.out⟩
  · have HF : Aside0 ((openL s.data.toList).2.2 = wordL begL s.data.toList) := ⟨by rw [openL_word c1]⟩
    have HWd1 : Aside0 (Calls Tryd.prog 37 #[.pointer (some ⟨g, 0, none⟩), .string begB, .int .i64 101] W fun en w' => en = .panicked [{ v := faultV (wordL begL s.data.toList : Int), recovered := false }] ∧ Below g W w') := ⟨HWd.out.mono fun en w' hh => by
      rcases hh with ⟨h1, _⟩ | ⟨_, h2, h3⟩
      · exact absurd h1 c1
      · exact ⟨h2, h3⟩⟩
    clear HWd
    generalize wordL begL s.data.toList = r at *
    unfold begB at HWd1
    go_enter Tryd.func26, Tryd.ntmps26
    go_wp2_with (go_at_call 37; with_reducible refine (HWd1.out).mono ?_; rintro e w1 ⟨rfl, hb1⟩; have HB1 := Aside0.mk hb1; clear hb1)
    exact ⟨rfl, MsgIs.no_ HF.out c1 HB1.out⟩
set_option maxHeartbeats 2000000 in
theorem catch_no (p q r : Addr) (w : World) :
    CallsD Tryd.prog 25 #[.pointer (some p), .pointer (some q), .pointer (some r)] .returning w fun e u' w' => e = .returned (.tuple #[]) ∧ u' = .returning ∧ w' = w := by
  refine callsD_of_wpS Tryd.func25 rfl fun c₀ cs hu => ?_
  apply wpS_seq
  apply wpS_region
  simp [wpOpsS, go_sem, recoverD, hu, Tryd.ntmps25, Exit.thenS]
  apply wpS_seq
  apply wpS_region
  simp [wpOpsS, go_sem, hu, Tryd.ntmps25, Exit.thenS]
  refine wpS_cond (t := false) (by simp [Act.eval, Array.replicate]) ?_
  simp only [Bool.false_eq_true, if_false]
  refine wpS_of_wp (wp_skip ?_)
  cases c₀
  simp_all [bodyPostS, results, Tryd.results25]
set_option maxHeartbeats 2000000 in
theorem catch_yes (p q r : Addr) (e : Int) (older : List PanicEntry) (w : World) (sv : ByteArray) (n x : Int) (hp : w.cell? p = some (.string sv)) (hq : w.cell? q = some (.int .i64 n)) (hr : w.cell? r = some (.int .i64 x)) (zp : w.frozen? p = false) (zq : w.frozen? q = false) (zr : w.frozen? r = false) (hpq : p ≠ q) (hpr : p ≠ r) (hqr : q ≠ r) :
    CallsD Tryd.prog 25 #[.pointer (some p), .pointer (some q), .pointer (some r)] (.panicking ({ v := faultV e, recovered := false } :: older)) w fun en u' w' =>
      en = .returned (.tuple #[]) ∧ u' = .panicking ({ v := faultV e, recovered := true } :: older) ∧ ∃ m, w' = (((w.setCell p (.string ⟨#[]⟩)).setCell q (.int .i64 0)).setCell r (.int .i64 e)).drewN m := by
  unfold faultV
  refine callsD_of_wpS Tryd.func25 rfl fun c₀ cs hu => ?_
  apply wpS_seq
  apply wpS_region
  simp [wpOpsS, go_sem, recoverD, hu, Tryd.ntmps25, Exit.thenS]
  apply wpS_seq
  apply wpS_region
  simp [wpOpsS, go_sem, hu, Tryd.ntmps25, Exit.thenS]
  refine wpS_cond (t := true) (by simp [Act.eval, Array.replicate]) ?_
  simp only [if_true]
  refine wpS_of_wp ?_
  rw [show (#[Value.pointer (some p), Value.pointer (some q), Value.pointer (some r)] ++
          ((((Array.replicate 7 undef).setIfInBounds 1
                        (Value.iface 57 (Value.agg #[Value.int IntKind.i64 e]))).setIfInBounds
                    0 (Value.iface 57 (Value.agg #[Value.int IntKind.i64 e]))).setIfInBounds
                2 (Value.iface 57 (Value.agg #[Value.int IntKind.i64 e]))).setIfInBounds
            3 (Value.bool true)) = #[Value.pointer (some p), Value.pointer (some q), Value.pointer (some r), (Value.iface 57 (Value.agg #[Value.int IntKind.i64 e])), (Value.iface 57 (Value.agg #[Value.int IntKind.i64 e])), (Value.iface 57 (Value.agg #[Value.int IntKind.i64 e])), Value.bool true, undef, undef, undef] from rfl]
  have kq : ∀ v, (w.setCell p v).cell? q = some (.int .i64 n) := fun v => (World.cell?_setCell_other _ _ _ _ hpq).trans hq
  have kr : ∀ v u, ((w.setCell p v).setCell q u).cell? r = some (.int .i64 x) := fun v u => (World.cell?_setCell_other _ _ _ _ hqr).trans ((World.cell?_setCell_other _ _ _ _ hpr).trans hr)
  have hta : ∀ w, (Instr.typeAssert (.iface 57 (.agg #[.int .i64 e])) 20 57 false).run Tryd.prog w = .ok (.agg #[.int .i64 e]) w := fun _ => by kernel_rfl
  have hfl : ∀ w, (Instr.field 57 (.agg #[.int .i64 e]) 0).run Tryd.prog w = .ok (.int .i64 e) w := fun _ => by kernel_rfl
  clear hu
  go_region
  simp [bodyPostS, results, Tryd.results25]
  exact ⟨1, rfl⟩
theorem openL_fail {l : List UInt8} (h : (openL l).2.2 ≠ 0) : (openL l).1 = [] ∧ (openL l).2.1 = 0 := by
  unfold openL at h ⊢
  simp only at h ⊢
  split
  · exact ⟨rfl, rfl⟩
  · split
    · exact ⟨rfl, rfl⟩
    · split
      · exact ⟨rfl, rfl⟩
      · split
        · exact ⟨rfl, rfl⟩
        · split
          · exact ⟨rfl, rfl⟩
          · rename_i h1 h2 h3 h4 h5
            rw [if_neg h1, if_neg h2, if_neg h3, if_neg h4, if_neg h5] at h
            exact absurd rfl h
def OpenIs (r : List UInt8 × Nat × Nat) (w : World) (e : Ending) (w' : World) : Prop := e = .returned (.tuple #[.string ⟨r.1.toArray⟩, .int .i64 (r.2.1 : Int), .int .i64 (r.2.2 : Int)]) ∧ Below w.heap.size w w'
/-- The three named results in their boxes. -/
structure Box (B : Nat) (sv : ByteArray) (n x : Int) (w : World) : Prop where
  c0 : w.cell? ⟨B, 0, none⟩ = some (.string sv)
  c1 : w.cell? ⟨B + 1, 0, none⟩ = some (.int .i64 n)
  c2 : w.cell? ⟨B + 1 + 1, 0, none⟩ = some (.int .i64 x)
  z0 : w.frozen? ⟨B, 0, none⟩ = false
  z1 : w.frozen? ⟨B + 1, 0, none⟩ = false
  z2 : w.frozen? ⟨B + 1 + 1, 0, none⟩ = false
theorem Box.keep {B : Nat} {sv : ByteArray} {n x : Int} {w w' : World} (h : Box B sv n x w) (hb : Below (B + 1 + 1 + 1) w w') : Box B sv n x w' :=
  ⟨(hb.cell (p := ⟨B, 0, none⟩) (by simp; omega)).trans h.c0, (hb.cell (p := ⟨B + 1, 0, none⟩) (by simp)).trans h.c1, (hb.cell (p := ⟨B + 1 + 1, 0, none⟩) (by simp)).trans h.c2, (hb.frozen (p := ⟨B, 0, none⟩) (by simp; omega)).trans h.z0, (hb.frozen (p := ⟨B + 1, 0, none⟩) (by simp)).trans h.z1, (hb.frozen (p := ⟨B + 1 + 1, 0, none⟩) (by simp)).trans h.z2⟩
theorem Box.over {B : Nat} {sv : ByteArray} {n x : Int} {w : World} (h : Box B sv n x w) (bs : ByteArray) (k e : Int) (w' : World) (hw : ∃ m, w' = (((w.setCell ⟨B, 0, none⟩ (.string bs)).setCell ⟨B + 1, 0, none⟩ (.int .i64 k)).setCell ⟨B + 1 + 1, 0, none⟩ (.int .i64 e)).drewN m) :
    Box B bs k e w' ∧ Below B w w' := by
  obtain ⟨m, rfl⟩ := hw
  refine ⟨⟨?_, ?_, ?_, ?_, ?_, ?_⟩, ?_⟩
  · show ((_ : World).cell? _) = _
    exact (World.cell?_setCell_other _ _ _ _ (by first | (simp; done) | (simp; omega))).trans ((World.cell?_setCell_other _ _ _ _ (by simp)).trans (World.cell?_setCell_same _ _ _ h.c0))
  · exact (World.cell?_setCell_other _ _ _ _ (by simp)).trans (World.cell?_setCell_same _ _ _ ((World.cell?_setCell_other _ _ _ _ (by simp)).trans h.c1))
  · exact World.cell?_setCell_same _ _ _ ((World.cell?_setCell_other _ _ _ _ (by simp)).trans ((World.cell?_setCell_other _ _ _ _ (by first | (simp; done) | (simp; omega))).trans h.c2))
  · show World.frozen? (((w.setCell _ _).setCell _ _).setCell _ _) _ = false
    rw [World.frozen?_setCell, World.frozen?_setCell, World.frozen?_setCell]; exact h.z0
  · show World.frozen? (((w.setCell _ _).setCell _ _).setCell _ _) _ = false
    rw [World.frozen?_setCell, World.frozen?_setCell, World.frozen?_setCell]; exact h.z1
  · show World.frozen? (((w.setCell _ _).setCell _ _).setCell _ _) _ = false
    rw [World.frozen?_setCell, World.frozen?_setCell, World.frozen?_setCell]; exact h.z2
  · exact Below.drewN_ ((((Below.refl B w).setCell (p := ⟨B, 0, none⟩) (Nat.le_refl _) _).setCell (p := ⟨B + 1, 0, none⟩) (by simp) _).setCell (p := ⟨B + 1 + 1, 0, none⟩) (by first | (simp; done) | (simp; omega)) _) m
theorem Box.first {B : Nat} {sv : ByteArray} {n x : Int} {w : World} (h : Box B sv n x w) (bs : ByteArray) : Box B bs n x (w.setCell ⟨B, 0, none⟩ (.string bs)) :=
  ⟨World.cell?_setCell_same _ _ _ h.c0, (World.cell?_setCell_other _ _ _ _ (by simp)).trans h.c1, (World.cell?_setCell_other _ _ _ _ (by first | (simp; done) | (simp; omega))).trans h.c2, by rw [World.frozen?_setCell]; exact h.z0, by rw [World.frozen?_setCell]; exact h.z1, by rw [World.frozen?_setCell]; exact h.z2⟩
theorem Cur.other {g : Nat} {s : ByteArray} {n : Nat} {w : World} {p : Addr} (h : Cur g s n w) (v : Value) (hp : p.block ≠ g) : Cur g s n (w.setCell p v) :=
  ⟨(World.cell?_setCell_other _ _ _ _ (fun e => hp (by rw [e]))).trans h.text, (World.cell?_setCell_other _ _ _ _ (fun e => hp (by rw [e]))).trans h.place, by rw [World.frozen?_setCell]; exact h.live⟩
/-- The world when the message is asked for. -/
def openW (s : ByteArray) (w : World) : World := (((w.alloc (.cells #[.string ⟨#[]⟩] 9)).alloc (.cells #[.int .i64 0] 3)).alloc (.cells #[.int .i64 0] 23)).alloc (.cells #[.string s, .int .i64 0] 60)
theorem open_size (s : ByteArray) (w : World) : (openW s w).heap.size = w.heap.size + 1 + 1 + 1 + 1 := by simp [openW]
theorem open_cur (s : ByteArray) (w : World) : Cur (w.heap.size + 1 + 1 + 1) s 0 (openW s w) := by
  refine ⟨?_, ?_, ?_⟩ <;> simp [openW, go_sem]
theorem open_box (s : ByteArray) (w : World) : Box w.heap.size ⟨#[]⟩ 0 0 (openW s w) := by
  refine ⟨?_, ?_, ?_, ?_, ?_, ?_⟩ <;> simp [openW, go_sem]
theorem open_below (s : ByteArray) (w : World) : Below w.heap.size w (openW s w) := by
  unfold openW
  exact ((((Below.refl _ w).alloc (by first | (simp; done) | (simp; omega)) _).alloc (by first | (simp; done) | (simp; omega)) _).alloc (by first | (simp; done) | (simp; omega)) _).alloc (by first | (simp; done) | (simp; omega)) _
set_option maxRecDepth 100000 in
set_option maxHeartbeats 4000000 in
theorem open_no (s : ByteArray) (w : World) (hs : s.size ≤ 1152921504606846976) (c : (openL s.data.toList).2.2 ≠ 0) :
    Calls Tryd.prog 13 #[.string s] w (OpenIs (openL s.data.toList) w) := by
  obtain ⟨f1, f2⟩ := openL_fail c
  have HF : Aside0 (OpenIs (openL s.data.toList) w = OpenIs ([], 0, (openL s.data.toList).2.2) w) := ⟨by rw [← f1, ← f2]⟩
  rw [HF.out]
  have HM : Aside0 (∀ g W, Cur g s 0 W → Calls Tryd.prog 26 #[.pointer (some ⟨g, 0, none⟩)] W fun en w' => en = .panicked [{ v := faultV ((openL s.data.toList).2.2 : Int), recovered := false }] ∧ Below g W w') := ⟨fun g W hc => (message_walk g s W hc hs).mono fun en w' hh => by
    rcases hh with ⟨h1, _⟩ | ⟨_, h2, h3⟩
    · exact absurd h1 c
    · exact ⟨h2, h3⟩⟩
  clear HF f1 f2
  generalize (openL s.data.toList).2.2 = r at *
  have hmo := HM.out _ _ (open_cur s w)
  unfold openW at hmo
  have HMo := Aside0.mk hmo
  clear hmo
  have hmf : ∀ (fn : Fn) (first cap : Array Value) (w : World), (Instr.makeFunc fn first cap).run Tryd.prog w = .ok (.func fn first cap) w := fun _ _ _ _ => rfl
  go_enter_defers Tryd.func13, Tryd.ntmps13
  go_wp2_with (go_at_call 26; refine (HMo.out).mono ?_; rintro e w1 ⟨rfl, hb⟩; have HB : Aside0 (Below (w.heap.size + 1 + 1 + 1) (openW s w) w1) := ⟨hb⟩; clear hb)
  have hx := (open_box s w).keep HB.out
  refine leaves_cons (f := 25) (args := #[.pointer (some ⟨w.heap.size, 0, none⟩), .pointer (some ⟨w.heap.size + 1, 0, none⟩), .pointer (some ⟨w.heap.size + 1 + 1, 0, none⟩)]) (by simp) (by simp [go_sem]) ?_
  refine (catch_yes _ _ _ _ [] w1 _ _ _ hx.c0 hx.c1 hx.c2 hx.z0 hx.z1 hx.z2 (by simp) (by first | (simp; done) | (simp; omega)) (by simp)).mono ?_
  rintro e u' w'' ⟨rfl, rfl, hw⟩
  have hx' := hx.over ⟨#[]⟩ 0 (r : Int) w'' hw
  have h0 := hx'.1.c0
  have h1 := hx'.1.c1
  have h2 := hx'.1.c2
  have HW := Aside0.mk ((open_below s w).trans ((HB.out.mono (by omega)).trans hx'.2))
  clear hx hx' hw
  simp [Leaves, settle, results, Tryd.results13, go_sem, h0, h1, h2]
  exact ⟨rfl, HW.out⟩
set_option maxRecDepth 100000 in
set_option maxHeartbeats 4000000 in
theorem open_yes (s : ByteArray) (w : World) (hs : s.size ≤ 1152921504606846976) (c : (openL s.data.toList).2.2 = 0) :
    Calls Tryd.prog 13 #[.string s] w (OpenIs (openL s.data.toList) w) := by
  have HF : Aside0 (OpenIs (openL s.data.toList) w = OpenIs ((openL s.data.toList).1, (openL s.data.toList).2.1, 0) w) := ⟨by rw [← c]⟩
  rw [HF.out]
  have HM : Aside0 (∀ g W, Cur g s 0 W → Calls Tryd.prog 26 #[.pointer (some ⟨g, 0, none⟩)] W fun en w' => en = .returned (.string ⟨(openL s.data.toList).1.toArray⟩) ∧ Cur g s (openL s.data.toList).2.1 w' ∧ Below g W w') := ⟨fun g W hc => (message_walk g s W hc hs).mono fun en w' hh => by
    rcases hh with ⟨_, h2, h3, h4⟩ | ⟨h1, _⟩
    · exact ⟨h2, h3, h4⟩
    · exact absurd c h1⟩
  clear HF c
  generalize (openL s.data.toList).2.1 = n at *
  generalize (openL s.data.toList).1 = l at *
  have HL : Aside0 (∀ b w w', b = (⟨l.toArray⟩ : ByteArray) → Below w.heap.size w w' → OpenIs (l, n, 0) w (.returned (.tuple #[.string b, .int .i64 (n : Int), .int .i64 0])) w') := ⟨fun b w w' hb hw => by subst hb; exact ⟨rfl, hw⟩⟩
  generalize hbs : (⟨l.toArray⟩ : ByteArray) = bs at *
  have hmo := HM.out _ _ (open_cur s w)
  unfold openW at hmo
  have HMo := Aside0.mk hmo
  clear hmo
  have hmf : ∀ (fn : Fn) (first cap : Array Value) (w : World), (Instr.makeFunc fn first cap).run Tryd.prog w = .ok (.func fn first cap) w := fun _ _ _ _ => rfl
  go_enter_defers Tryd.func13, Tryd.ntmps13
  go_wp2_with (go_at_call 26; refine (HMo.out).mono ?_; rintro e w1 ⟨rfl, hc, hb⟩; have HB : Aside0 (Below (w.heap.size + 1 + 1 + 1) (openW s w) w1) := ⟨hb⟩; have HC := Aside0.mk hc; have hx := (open_box s w).keep HB.out; have hx0 := hx.c0; have hz0 := hx.z0; have HX := Aside0.mk hx; clear hb hc hx)
  have hx1 := HX.out.first bs
  have hc1 := HC.out.other (p := ⟨w.heap.size, 0, none⟩) (.string bs) (by simp; omega)
  have HW := Aside0.mk ((open_below s w).trans ((HB.out.mono (show w.heap.size ≤ w.heap.size + 1 + 1 + 1 by omega)).setCell (p := ⟨w.heap.size, 0, none⟩) (Nat.le_refl _) (.string bs)))
  generalize w1.setCell ⟨w.heap.size, 0, none⟩ (.string bs) = W2 at hx1 hc1 HW
  clear hx0 hz0 HX HC HB HMo HM
  have k0 := hx1.c0
  have k1 := hx1.c1
  have k2 := hx1.c2
  have z0 := hx1.z0
  have z1 := hx1.z1
  have z2 := hx1.z2
  have kc := hc1.place
  have g1 : ∀ v, (W2.setCell ⟨w.heap.size, 0, none⟩ v).cell? ⟨w.heap.size + 1, 0, none⟩ = some (.int .i64 0) := fun v => (World.cell?_setCell_other _ _ _ _ (by simp)).trans k1
  have g2 : ∀ v u, ((W2.setCell ⟨w.heap.size, 0, none⟩ v).setCell ⟨w.heap.size + 1, 0, none⟩ u).cell? ⟨w.heap.size + 1 + 1, 0, none⟩ = some (.int .i64 0) := fun v u => (World.cell?_setCell_other _ _ _ _ (by simp)).trans ((World.cell?_setCell_other _ _ _ _ (by first | (simp; done) | (simp; omega))).trans k2)
  have g3 : ∀ v, (W2.setCell ⟨w.heap.size, 0, none⟩ v).cell? ⟨w.heap.size + 1 + 1 + 1, 1, none⟩ = some (.int .i64 (n : Int)) := fun v => (World.cell?_setCell_other _ _ _ _ (by first | (simp; done) | (simp; omega))).trans kc
  have HX2 := Aside0.mk hx1
  clear hx1 hc1
  go_region
  have hx' : _ ∧ Below w.heap.size W2 ((((W2.setCell ⟨w.heap.size, 0, none⟩ (.string bs)).setCell ⟨w.heap.size + 1, 0, none⟩ (.int .i64 (n : Int))).setCell ⟨w.heap.size + 1 + 1, 0, none⟩ (.int .i64 0)).drew) := HX2.out.over bs (n : Int) 0 _ ⟨1, rfl⟩
  generalize (((W2.setCell ⟨w.heap.size, 0, none⟩ (.string bs)).setCell ⟨w.heap.size + 1, 0, none⟩ (.int .i64 (n : Int))).setCell ⟨w.heap.size + 1 + 1, 0, none⟩ (.int .i64 0)).drew = W9 at hx' ⊢
  have HW9 := Aside0.mk (HW.out.trans hx'.2)
  have h0 := hx'.1.c0
  have h1 := hx'.1.c1
  have h2 := hx'.1.c2
  clear hx' k0 k1 k2 z0 z1 z2 kc g1 g2 g3 HX2 HW W2 w1
  go_wp2
  refine leaves_cons (f := 25) (args := #[.pointer (some ⟨w.heap.size, 0, none⟩), .pointer (some ⟨w.heap.size + 1, 0, none⟩), .pointer (some ⟨w.heap.size + 1 + 1, 0, none⟩)]) (by simp) (by simp [go_sem]) ?_
  refine (catch_no _ _ _ W9).mono ?_
  rintro e u' w'' ⟨rfl, rfl, rfl⟩
  simp [Leaves, settle, results, Tryd.results13, go_sem, h0, h1, h2]
  exact HL.out bs w _ rfl HW9.out
/-- Open: the message at a text's beginning. -/
theorem open_walk (s : ByteArray) (w : World) (hs : s.size ≤ 1152921504606846976) : Calls Tryd.prog 13 #[.string s] w (OpenIs (openL s.data.toList) w) := by
  by_cases c : (openL s.data.toList).2.2 = 0
  · exact open_yes s w hs c
  · exact open_no s w hs c
/-- The text's length stays within what a memory holds. -/
def wire_Open.f (a0 : ByteArray) : Option (ByteArray × Int × Int) := if a0.size ≤ 1152921504606846976 then some (⟨(openL a0.data.toList).1.toArray⟩, ((openL a0.data.toList).2.1 : Int), ((openL a0.data.toList).2.2 : Int)) else none
theorem wire_Open.calls (a0 : ByteArray) (r1 : ByteArray) (r2 : Int) (r3 : Int) (w : World) (h : wire_Open.f a0 = some (r1, r2, r3)) :
    Calls Tryd.prog 13 #[.string a0] w fun e w' => e = .returned (.tuple #[.string r1, .int .i64 r2, .int .i64 r3]) ∧ Below w.heap.size w w' := by
  unfold wire_Open.f at h
  by_cases c : a0.size ≤ 1152921504606846976
  · rw [if_pos c] at h
    simp only [Option.some.injEq, Prod.mk.injEq] at h
    obtain ⟨rfl, rfl, rfl⟩ := h
    exact open_walk a0 w c
  · rw [if_neg c] at h; cases h

end Go.Proofs.YtgknfdjfgemceaaDoor.Q
