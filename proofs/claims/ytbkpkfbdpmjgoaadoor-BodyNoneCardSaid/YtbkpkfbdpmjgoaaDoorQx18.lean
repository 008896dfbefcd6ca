/- Each Go function that the laws of this seat reach, as a plain Lean function, and its contract: the machine's call does what that function says. -/
import Derived.Test.YtbkpkfbdpmjgoaaDoorQx0
import Derived.Test.YtbkpkfbdpmjgoaaDoorQx1
import Derived.Test.YtbkpkfbdpmjgoaaDoorQx12
import Derived.Test.YtbkpkfbdpmjgoaaDoorQx13
namespace Go.Proofs.YtbkpkfbdpmjgoaaDoor.Q
open Go.RowKit Go.Proofs.YtbkpkfbdpmjgoaaDoorW.PrintWords Go.Proofs.YtbkpkfbdpmjgoaaDoorW.PrintLast Go.Proofs.YtbkpkfbdpmjgoaaDoorW.PrintMore
attribute [local go_sem] max2_int min2_int max_two min_two max_three min_three max_four min_four   -- for this text's walks alone
set_option linter.unusedVariables false
set_option linter.unusedSimpArgs false

--PART
/-! ### spigotlaw11_BodyNone: function 5 -/
-- rests on 14, 7
/-! ### A form that is none -/
def NoneP (v : Value) (w : World) : Prop := v = .pointer none ∨ ∃ g, v = .pointer (some ⟨g, 0, none⟩) ∧ w.cell? ⟨g, 1, none⟩ = some (.map none)
theorem NoneP.below {v : Value} {w w' : World} (h : NoneP v w) (hb : Below w.heap.size w w') : NoneP v w' := by
  rcases h with h | ⟨g, h, h1⟩
  · exact .inl h
  · exact .inr ⟨g, h, (hb.cell (p := ⟨g, 1, none⟩) (World.block_lt_of_cell? w _ h1)).trans h1⟩
theorem map_no (w : World) : (binOp .neq 39 (.map none) (.map none)).run Tryd.prog w = .ok (.bool false) w := by kernel_rfl
theorem look_no (t : Int) (ht : i64ok t) (w : World) : (Instr.lookup 39 (.map none) (.int .i64 t) true).run Tryd.prog w = .ok (.tuple #[.string ⟨#[]⟩, .bool false]) w := by
  have h := Maps.look_nil true (Go.Maps.int_keyed Tryd.underlying3) Tryd.underlying39 (zero_string w) (Go.Maps.keyOf_int_mk Tryd.underlying3 ht)
  exact h
set_option maxRecDepth 100000 in
theorem none_is (v : Value) (w : World) (h : NoneP v w) : Calls Tryd.prog 27 #[v] w fun e w' => e = .returned (.bool false) ∧ w' = w := by
  rcases h with rfl | ⟨g, rfl, h1⟩
  · go_enter Tryd.func27, Tryd.ntmps27
    go_wp2
    go_ret
    exact ⟨rfl, rfl⟩
  · have hm := map_no w
    go_enter Tryd.func27, Tryd.ntmps27
    go_wp2
    go_ret
    exact ⟨rfl, rfl⟩
theorem none_has (v : Value) (w : World) (h : NoneP v w) (t : Int) (ht : i64ok t) : Calls Tryd.prog 16 #[v, .int .i64 t] w fun e w' => e = .returned (.bool false) ∧ w' = w := by
  rcases h with rfl | ⟨g, rfl, h1⟩
  · go_enter Tryd.func16, Tryd.ntmps16
    go_wp2
    go_ret
    exact ⟨rfl, rfl⟩
  · have hl := look_no t ht w
    go_enter Tryd.func16, Tryd.ntmps16
    go_wp2
    go_ret
    exact ⟨rfl, rfl⟩
set_option maxRecDepth 100000 in
theorem none_kind (v : Value) (w : World) (h : NoneP v w) : Calls Tryd.prog 15 #[v] w fun e w' => e = .returned (.string ⟨#[]⟩) ∧ w' = w := by
  have HI := Aside0.mk (none_is v w h)
  go_enter Tryd.func15, Tryd.ntmps15
  go_wp2_with (go_at_call 27; refine HI.out.mono ?_; rintro e w' ⟨rfl, hh⟩; obtain rfl := hh.symm)
  go_ret
  exact ⟨rfl, rfl⟩
set_option maxRecDepth 100000 in
theorem none_done (v : Value) (w : World) (h : NoneP v w) : Calls Tryd.prog 14 #[v] w fun e w' => e = .returned (.tuple #[.int .i64 0, .int .i64 1]) ∧ w' = w := by
  have HI := Aside0.mk (none_is v w h)
  go_enter Tryd.func14, Tryd.ntmps14
  go_wp2_with (go_at_call 27; refine HI.out.mono ?_; rintro e w' ⟨rfl, hh⟩; obtain rfl := hh.symm)
  go_ret2
  exact ⟨rfl, rfl⟩
set_option maxRecDepth 100000 in
theorem none_ask_int (v cl : Value) (w : World) (h : NoneP v w) (t : Int) : Calls Tryd.prog 31 #[v, .int .i64 t, cl] w fun e w' => e = .returned (.int .i64 0) ∧ w' = w := by
  have HI := Aside0.mk (none_is v w h)
  go_enter Tryd.func31, Tryd.ntmps31
  go_wp2_with (go_at_call 27; refine HI.out.mono ?_; rintro e w' ⟨rfl, hh⟩; obtain rfl := hh.symm)
  go_ret
  exact ⟨rfl, rfl⟩
set_option maxRecDepth 100000 in
theorem none_ask_string (v cl : Value) (w : World) (h : NoneP v w) (t : Int) : Calls Tryd.prog 28 #[v, .int .i64 t, cl] w fun e w' => e = .returned (.string ⟨#[]⟩) ∧ w' = w := by
  have HI := Aside0.mk (none_is v w h)
  go_enter Tryd.func28, Tryd.ntmps28
  go_wp2_with (go_at_call 27; refine HI.out.mono ?_; rintro e w' ⟨rfl, hh⟩; obtain rfl := hh.symm)
  go_ret
  exact ⟨rfl, rfl⟩
set_option maxRecDepth 100000 in
theorem none_ask_ints (v cl : Value) (w : World) (h : NoneP v w) (t : Int) : Calls Tryd.prog 33 #[v, .int .i64 t, cl] w fun e w' => e = .returned (.slice none 0 0) ∧ w' = w := by
  have HI := Aside0.mk (none_is v w h)
  go_enter Tryd.func33, Tryd.ntmps33
  go_wp2_with (go_at_call 27; refine HI.out.mono ?_; rintro e w' ⟨rfl, hh⟩; obtain rfl := hh.symm)
  go_ret
  exact ⟨rfl, rfl⟩
theorem make_func (fn : Fn) (first cap : Array Value) (w : World) : (Instr.makeFunc fn first cap).run Tryd.prog w = .ok (.func fn first cap) w := rfl
theorem none_int (v : Value) (w : World) (h : NoneP v w) (t low high : Int) : Calls Tryd.prog 18 #[v, .int .i64 t, .int .i64 low, .int .i64 high] w fun e w' => e = .returned (.int .i64 0) ∧ Below w.heap.size w w' := by
  have HB : Aside0 (Below w.heap.size w ((w.alloc (.cells #[.int .i64 low] 3)).alloc (.cells #[.int .i64 high] 3))) := ⟨((Below.refl _ _).alloc (Nat.le_refl _) _).alloc (by simp) _⟩
  have HA : Aside0 (∀ cl, Calls Tryd.prog 31 #[v, .int .i64 t, cl] ((w.alloc (.cells #[.int .i64 low] 3)).alloc (.cells #[.int .i64 high] 3)) fun e w' => e = .returned (.int .i64 0) ∧ w' = _) := ⟨fun cl => none_ask_int v cl _ (h.below HB.out) t⟩
  have hmf := make_func
  go_enter Tryd.func18, Tryd.ntmps18
  go_wp2_with (go_at_call 31; refine (HA.out _).mono ?_; rintro e w' ⟨rfl, rfl⟩)
  go_ret
  exact ⟨rfl, HB.out⟩
theorem none_name (v : Value) (w : World) (h : NoneP v w) (t : Int) : Calls Tryd.prog 17 #[v, .int .i64 t] w fun e w' => e = .returned (.string ⟨#[]⟩) ∧ w' = w := by
  have HA : Aside0 (∀ cl, Calls Tryd.prog 28 #[v, .int .i64 t, cl] w fun e w' => e = .returned (.string ⟨#[]⟩) ∧ w' = w) := ⟨fun cl => none_ask_string v cl _ h t⟩
  go_enter Tryd.func17, Tryd.ntmps17
  go_wp2_with (go_at_call 28; refine (HA.out _).mono ?_; rintro e w' ⟨rfl, hh⟩; obtain rfl := hh.symm)
  go_ret
  exact ⟨rfl, rfl⟩
theorem none_ints (v : Value) (w : World) (h : NoneP v w) (t most low high : Int) : Calls Tryd.prog 19 #[v, .int .i64 t, .int .i64 most, .int .i64 low, .int .i64 high] w fun e w' => e = .returned (.slice none 0 0) ∧ Below w.heap.size w w' := by
  have HB : Aside0 (Below w.heap.size w (((w.alloc (.cells #[.int .i64 most] 3)).alloc (.cells #[.int .i64 low] 3)).alloc (.cells #[.int .i64 high] 3))) := ⟨(((Below.refl _ _).alloc (Nat.le_refl _) _).alloc (by simp) _).alloc (by simp; omega) _⟩
  have HA : Aside0 (∀ cl, Calls Tryd.prog 33 #[v, .int .i64 t, cl] (((w.alloc (.cells #[.int .i64 most] 3)).alloc (.cells #[.int .i64 low] 3)).alloc (.cells #[.int .i64 high] 3)) fun e w' => e = .returned (.slice none 0 0) ∧ w' = _) := ⟨fun cl => none_ask_ints v cl _ (h.below HB.out) t⟩
  have hmf := make_func
  go_enter Tryd.func19, Tryd.ntmps19
  go_wp2_with (go_at_call 33; refine (HA.out _).mono ?_; rintro e w' ⟨rfl, rfl⟩)
  go_ret
  exact ⟨rfl, HB.out⟩
def noneW (a0 a1 a2 a3 a4 : Int) (w : World) : World := w.alloc (.cells #[.int .i64 a0, .int .i64 a1, .int .i64 a2, .int .i64 a3, .int .i64 a4] 37)
def noneL (w1 : World) : World := (w1.alloc (.cells #[.slice none 0 0, .map none, .map none, .int .i64 0, .int .i64 0] 42)).alloc (.cells #[.pointer none, .pointer (some ⟨w1.heap.size, 0, none⟩)] 38)
structure NoneIs (a1 a2 a3 a4 : Int) (b n : Nat) (w : World) : Prop where
  c1 : w.cell? ⟨b, 1, none⟩ = some (.int .i64 a1)
  c2 : w.cell? ⟨b, 2, none⟩ = some (.int .i64 a2)
  c3 : w.cell? ⟨b, 3, none⟩ = some (.int .i64 a3)
  c4 : w.cell? ⟨b, 4, none⟩ = some (.int .i64 a4)
  s0 : w.cell? ⟨n + 1, 0, none⟩ = some (.pointer none)
  s1 : w.cell? ⟨n + 1, 1, none⟩ = some (.pointer (some ⟨n, 0, none⟩))
  f1 : w.cell? ⟨n, 1, none⟩ = some (.map none)
theorem NoneIs.below {a1 a2 a3 a4 : Int} {b n : Nat} {w w' : World} (h : NoneIs a1 a2 a3 a4 b n w) (hb : Below w.heap.size w w') : NoneIs a1 a2 a3 a4 b n w' := by
  have k : ∀ (p : Addr) (v : Value), w.cell? p = some v → w'.cell? p = some v := fun p v hv => (hb.cell (World.block_lt_of_cell? w _ hv)).trans hv
  exact ⟨k _ _ h.c1, k _ _ h.c2, k _ _ h.c3, k _ _ h.c4, k _ _ h.s0, k _ _ h.s1, k _ _ h.f1⟩
theorem none_start (a0 a1 a2 a3 a4 : Int) (w w1 : World) (hb : Below (noneW a0 a1 a2 a3 a4 w).heap.size (noneW a0 a1 a2 a3 a4 w) w1) : NoneIs a1 a2 a3 a4 w.heap.size w1.heap.size (noneL w1) ∧ Below w.heap.size w (noneL w1) := by
  have hz : (noneW a0 a1 a2 a3 a4 w).heap.size = w.heap.size + 1 := by simp [noneW]
  have hs := hb.size
  have hk : ∀ (j : Nat) (v : Value), (noneW a0 a1 a2 a3 a4 w).cell? ⟨w.heap.size, j, none⟩ = some v → (noneL w1).cell? ⟨w.heap.size, j, none⟩ = some v := fun j v hv => by
    have h1 := (hb.cell (p := ⟨w.heap.size, j, none⟩) (by rw [hz]; exact Nat.lt_succ_self _)).trans hv
    exact alloc_cell (alloc_cell h1 _) _
  refine ⟨⟨hk 1 _ (by simp [noneW, go_sem]), hk 2 _ (by simp [noneW, go_sem]), hk 3 _ (by simp [noneW, go_sem]), hk 4 _ (by simp [noneW, go_sem]), by simp [noneL, go_sem], by simp [noneL, go_sem], by simp [noneL, go_sem]⟩, ?_⟩
  have b0 : Below w.heap.size w (noneW a0 a1 a2 a3 a4 w) := (Below.refl _ _).alloc (Nat.le_refl _) _
  have b1 : Below w.heap.size w w1 := b0.trans (hb.mono (by omega))
  exact (b1.alloc (by have := b1.size; omega) _).alloc (by have := b1.size; simp; omega) _
set_option maxRecDepth 100000 in
set_option maxHeartbeats 8000000 in
theorem BodyNone_walk (a0 a1 a2 a3 a4 : Int) (w : World) (h1 : i64ok a1) :
    Calls Tryd.prog 5 #[.agg #[.int .i64 a0, .int .i64 a1, .int .i64 a2, .int .i64 a3, .int .i64 a4]] w fun e w' => e = .returned (.bool true) ∧ Below w.heap.size w w' := by
  have HAw : Aside0 (∀ W, Calls Tryd.prog 7 #[] W fun e w' => e = .returned (.bool true) ∧ Below W.heap.size W w') := ⟨fun W => awake_walk W⟩
  have HD : Aside0 (∀ v W, NoneP v W → Calls Tryd.prog 14 #[v] W fun e w' => e = .returned (.tuple #[.int .i64 0, .int .i64 1]) ∧ w' = W) := ⟨none_done⟩
  have HK : Aside0 (∀ v W, NoneP v W → Calls Tryd.prog 15 #[v] W fun e w' => e = .returned (.string ⟨#[]⟩) ∧ w' = W) := ⟨none_kind⟩
  have HH : Aside0 (∀ v W, NoneP v W → Calls Tryd.prog 16 #[v, .int .i64 a1] W fun e w' => e = .returned (.bool false) ∧ w' = W) := ⟨fun v W h => none_has v W h a1 h1⟩
  have HN : Aside0 (∀ v W, NoneP v W → Calls Tryd.prog 17 #[v, .int .i64 a1] W fun e w' => e = .returned (.string ⟨#[]⟩) ∧ w' = W) := ⟨fun v W h => none_name v W h a1⟩
  have HI : Aside0 (∀ v W, NoneP v W → Calls Tryd.prog 18 #[v, .int .i64 a1, .int .i64 a3, .int .i64 a4] W fun e w' => e = .returned (.int .i64 0) ∧ Below W.heap.size W w') := ⟨fun v W h => none_int v W h a1 a3 a4⟩
  have HJ : Aside0 (∀ v W, NoneP v W → Calls Tryd.prog 19 #[v, .int .i64 a1, .int .i64 a2, .int .i64 a3, .int .i64 a4] W fun e w' => e = .returned (.slice none 0 0) ∧ Below W.heap.size W w') := ⟨fun v W h => none_ints v W h a1 a2 a3 a4⟩
  go_enter Tryd.func5, Tryd.ntmps5
  go_wp2_with (go_at_call 7; refine (HAw.out _).mono ?_; rintro e w1 ⟨rfl, hb1⟩; obtain ⟨hs0, hbw⟩ := none_start a0 a1 a2 a3 a4 w w1 hb1; have HS := Aside0.mk hs0; have HB := Aside0.mk hbw; clear hs0 hbw hb1)
  change Code.wp _ _ _ _ (noneL w1)
  go_loopw [15] (fun v15 wr => ∃ i : Nat, v15 = .int .i64 (i : Int) ∧ i ≤ 2 ∧ Aside0 (NoneIs a1 a2 a3 a4 w.heap.size w1.heap.size wr) ∧ Aside0 (Below w.heap.size w wr)) (fun v15 _ => 2 - (intOf v15).toNat)
  case atStart => exact ⟨0, rfl, by omega, HS, HB⟩
  case round =>
    clear HS HB HAw
    obtain ⟨i, rfl, hi, HS, HB⟩ := hrel
    have hc1 := HS.out.c1
    have hc2 := HS.out.c2
    have hc3 := HS.out.c3
    have hc4 := HS.out.c4
    have hs0 := HS.out.s0
    have hs1 := HS.out.s1
    by_cases i2 : i = 2
    · subst i2
      go_wp2
      go_ret
      exact ⟨rfl, HB.out⟩
    · have HP0 : Aside0 (∀ W, Below wr.heap.size wr W → NoneP (.pointer none) W) := ⟨fun W _ => .inl rfl⟩
      have HP1 : Aside0 (∀ W, Below wr.heap.size wr W → NoneP (.pointer (some ⟨w1.heap.size, 0, none⟩)) W) := ⟨fun W hW => .inr ⟨_, rfl, (HS.out.below hW).f1⟩⟩
      rcases (show i = 0 ∨ i = 1 by omega) with rfl | rfl
      · go_wp2_with (first
          | (go_at_call 14; refine (HD.out _ _ (HP0.out _ (Below.refl _ _))).mono ?_; rintro e _ ⟨rfl, rfl⟩)
          | (go_at_call 15; refine (HK.out _ _ (HP0.out _ (Below.refl _ _))).mono ?_; rintro e _ ⟨rfl, rfl⟩)
          | (go_at_call 16; refine (HH.out _ _ (HP0.out _ (Below.refl _ _))).mono ?_; rintro e _ ⟨rfl, rfl⟩)
          | (go_at_call 17; refine (HN.out _ _ (HP0.out _ (Below.refl _ _))).mono ?_; rintro e _ ⟨rfl, rfl⟩)
          | (go_at_call 18; refine (HI.out _ _ (HP0.out _ (Below.refl _ _))).mono ?_; rintro e w2 ⟨rfl, hb2⟩; have HS2 := Aside0.mk (HS.out.below hb2); have HB2 := Aside0.mk (HB.out.trans (hb2.mono HB.out.size)); have hd1 := HS2.out.c1; have hd2 := HS2.out.c2; have hd3 := HS2.out.c3; have hd4 := HS2.out.c4; have HP2 := Aside0.mk (HP0.out _ hb2); clear hb2)
          | (go_at_call 19; refine (HJ.out _ _ HP2.out).mono ?_; rintro e w3 ⟨rfl, hb3⟩; have HS3 := Aside0.mk (HS2.out.below hb3); have HB3 := Aside0.mk (HB2.out.trans (hb3.mono HB2.out.size)); clear hb3))
        exact ⟨⟨1, rfl, by omega, HS3, HB3⟩, by decide⟩
      · go_wp2_with (first
          | (go_at_call 14; refine (HD.out _ _ (HP1.out _ (Below.refl _ _))).mono ?_; rintro e _ ⟨rfl, rfl⟩)
          | (go_at_call 15; refine (HK.out _ _ (HP1.out _ (Below.refl _ _))).mono ?_; rintro e _ ⟨rfl, rfl⟩)
          | (go_at_call 16; refine (HH.out _ _ (HP1.out _ (Below.refl _ _))).mono ?_; rintro e _ ⟨rfl, rfl⟩)
          | (go_at_call 17; refine (HN.out _ _ (HP1.out _ (Below.refl _ _))).mono ?_; rintro e _ ⟨rfl, rfl⟩)
          | (go_at_call 18; refine (HI.out _ _ (HP1.out _ (Below.refl _ _))).mono ?_; rintro e w2 ⟨rfl, hb2⟩; have HS2 := Aside0.mk (HS.out.below hb2); have HB2 := Aside0.mk (HB.out.trans (hb2.mono HB.out.size)); have hd1 := HS2.out.c1; have hd2 := HS2.out.c2; have hd3 := HS2.out.c3; have hd4 := HS2.out.c4; have HP2 := Aside0.mk (HP1.out _ hb2); clear hb2)
          | (go_at_call 19; refine (HJ.out _ _ HP2.out).mono ?_; rintro e w3 ⟨rfl, hb3⟩; have HS3 := Aside0.mk (HS2.out.below hb3); have HB3 := Aside0.mk (HB2.out.trans (hb3.mono HB2.out.size)); clear hb3))
        exact ⟨⟨2, rfl, by omega, HS3, HB3⟩, by decide⟩
def spigotlaw11_BodyNone.f (a0 a1 a2 a3 a4 : Int) : Option Bool := if -9223372036854775808 ≤ a1 ∧ a1 ≤ 9223372036854775807 then some true else none
theorem spigotlaw11_BodyNone.calls (a0 a1 a2 a3 a4 : Int) (r : Bool) (w : World) (h : spigotlaw11_BodyNone.f a0 a1 a2 a3 a4 = some r) :
    Calls Tryd.prog 5 #[.agg #[.int .i64 a0, .int .i64 a1, .int .i64 a2, .int .i64 a3, .int .i64 a4]] w fun e w' => e = .returned (.bool r) ∧ Below w.heap.size w w' := by
  unfold spigotlaw11_BodyNone.f at h
  by_cases c : -9223372036854775808 ≤ a1 ∧ a1 ≤ 9223372036854775807
  · rw [if_pos c] at h
    obtain rfl := Option.some.inj h
    exact BodyNone_walk a0 a1 a2 a3 a4 w (i64ok_of c.1 c.2)
  · rw [if_neg c] at h; cases h

end Go.Proofs.YtbkpkfbdpmjgoaaDoor.Q
