/- Each Go function that the laws of this seat reach, as a plain Lean function, and its contract: the machine's call does what that function says. -/
import Derived.Test.YtjppmjgpbemjlaaDoorQx0
import Derived.Test.YtjppmjgpbemjlaaDoorQx1
import Derived.Test.YtjppmjgpbemjlaaDoorQx20
namespace Go.Proofs.YtjppmjgpbemjlaaDoor.Q
open Go.RowKit Go.Proofs.YtjppmjgpbemjlaaDoorW.PrintWords Go.Proofs.YtjppmjgpbemjlaaDoorW.PrintLast Go.Proofs.YtjppmjgpbemjlaaDoorW.PrintMore
attribute [local go_sem] max2_int min2_int max_two min_two max_three min_three max_four min_four   -- for this text's walks alone
set_option linter.unusedVariables false
set_option linter.unusedSimpArgs false

--PART
/-! ### spigotref08_Forms_p: function 17 -/
def spigotref08_Forms_p.l0 : Nat → List (S28) → ByteArray → Int → Option (ByteArray × Int)
  | 0, _, _, _ => none
  | k + 1, x0, x4, x5 => if x5 < (x0.length : Int) then (if 0 ≤ x5 then ((spigotref08_Form.f ((rd_T28 x0 x5).f0) ((rd_T28 x0 x5).f1)).bind fun bt185 => (if bt185.2 = 0 then (if x4.size + bt185.1.size ≤ 9223372036854775807 then (spigotref08_Forms_p.l0 k x0 (x4 ++ bt185.1) (wrap64 (x5 + 1))) else (none)) else (some ((⟨#[]⟩ : ByteArray), bt185.2)))) else (none)) else (some (x4, 0))
def spigotref08_Forms_p.f (k : Nat) (l0 : List (S28)) : Option (ByteArray × Int) := if (l0.length : Int) > 64 then (some ((⟨#[]⟩ : ByteArray), 3)) else (spigotref08_Forms_p.l0 k l0 (⟨#[]⟩ : ByteArray) 0)
theorem spigotref08_Forms_p.mono_l : ∀ k, (∀ y0 y1 y2, LeO (spigotref08_Forms_p.l0 k y0 y1 y2) (spigotref08_Forms_p.l0 (k + 1) y0 y1 y2))
  | 0 => fun _ _ _ r h => by simp [spigotref08_Forms_p.l0] at h
  | k + 1 => by
    have ih0 := spigotref08_Forms_p.mono_l k
    · intro y0 y1 y2
      unfold spigotref08_Forms_p.l0
      repeat' first
      | (with_reducible exact ih0 _ _ _)
      | (with_reducible exact LeO.refl _)
      | (with_reducible exact LeO.none _)
      | (with_reducible refine LeO.ite ?_ ?_)
      | (with_reducible refine LeO.bind ?_ (fun _ => ?_))
      | exact ih0 _ _ _
      | exact LeO.none _
      | refine LeO.ite ?_ ?_
      | refine LeO.bind ?_ (fun _ => ?_)
theorem spigotref08_Forms_p.mono : ∀ a0 k, LeO (spigotref08_Forms_p.f k a0) (spigotref08_Forms_p.f (k + 1) a0) := by
  intro a0 k
  have ih0 := spigotref08_Forms_p.mono_l k
  unfold spigotref08_Forms_p.f
  repeat' first
      | (with_reducible exact ih0 _ _ _)
      | (with_reducible exact LeO.refl _)
      | (with_reducible exact LeO.none _)
      | (with_reducible refine LeO.ite ?_ ?_)
      | (with_reducible refine LeO.bind ?_ (fun _ => ?_))
      | exact ih0 _ _ _
      | exact LeO.none _
      | refine LeO.ite ?_ ?_
      | refine LeO.bind ?_ (fun _ => ?_)
set_option maxHeartbeats 8000000 in
set_option maxRecDepth 100000 in
theorem spigotref08_Forms_p.calls (k : Nat) (A0 : Option Addr) (c0 : Nat) (l0 : List (S28)) (r1 : ByteArray) (r2 : Int) (w : World) (hr0 : Kd.C k28 w A0 l0.length l0) (hc0 : l0.length ≤ c0) (h : spigotref08_Forms_p.f k l0 = some (r1, r2)) :
    Calls Tryd.prog 17 #[.slice A0 l0.length c0] w fun e w' => e = .returned (.tuple #[.string r1, .int .i64 r2]) ∧ Below w.heap.size w w' := by
  have hu28 := Tryd.underlying28
  have HR0 := Aside0.mk hr0
  have HC0 := Aside0.mk hc0
  clear hr0 hc0
  have HB := Aside0.mk (Below.refl w.heap.size w)
  have H : (if (l0.length : Int) > 64 then (some ((⟨#[]⟩ : ByteArray), 3)) else (spigotref08_Forms_p.l0 k l0 (⟨#[]⟩ : ByteArray) 0)) = some (r1, r2) := h
  clear h
  by_cases c2 : (l0.length : Int) > 64
  · rw [if_pos c2] at H
    have c2b0 : decide (64 < (l0.length : Int)) = true := decide_eq_true c2
    have c2b1 : decide (64 < l0.length) = true := decide_eq_true (by omega)
    clear c2
    simp only [Option.some.injEq, Prod.mk.injEq] at H
    obtain ⟨rfl, rfl⟩ := H
    go_enter Tryd.func17, Tryd.ntmps17
    go_wp2
    go_ret2
    exact ⟨by first | rfl | (simp [errW_none, errW_some] <;> rfl) | (simp [*, errW_none, errW_some] <;> rfl), by repeat (first | (with_reducible first | exact HB.out | apply below_alloc | apply pw_below_drewN | apply below_drew1) | exact HB.out)⟩
  · rw [if_neg c2] at H
    have c2b0 : decide (64 < (l0.length : Int)) = false := decide_eq_false c2
    have c2b1 : decide (64 < l0.length) = false := decide_eq_false (by omega)
    clear c2
    have H' := Aside0.mk H
    clear H
    go_enter Tryd.func17, Tryd.ntmps17
    go_wp2
    go_loopg [4, 5] k (fun kq v4 v5 w' => ∃ (x4_1 : ByteArray) (x5_1 : Int), v4 = .string x4_1 ∧ v5 = .int .i64 x5_1 ∧ Aside0 (spigotref08_Forms_p.l0 kq l0 x4_1 x5_1 = some (r1, r2)) ∧ Aside0 (kq ≤ k) ∧ Aside0 (Below w.heap.size w w'))
    case atStart => exact ⟨((⟨#[]⟩ : ByteArray)), (0), (by first | rfl | (simp; done) | (simp [*]; done)), (by first | rfl | (simp; done) | (simp [*]; done)), H', ⟨Nat.le_refl _⟩, ⟨by repeat (first | (with_reducible first | exact HB.out | apply below_alloc | apply pw_below_drewN | apply below_drew1) | exact HB.out)⟩⟩
    case round =>
      clear H'
      try clear c1
      try clear c2
      try clear c2b0
      try clear c2b1
      try clear p2
      obtain ⟨x4_1, x5_1, rfl, rfl, HA, HK1, HB⟩ := hrel
      cases gk with
      | zero => exact absurd HA.out (by simp [spigotref08_Forms_p.l0])
      | succ k1 =>
        have H := HA.out
        clear HA
        simp only [spigotref08_Forms_p.l0] at H
        by_cases c3 : x5_1 < (l0.length : Int)
        · rw [if_pos c3] at H
          have c3b0 : decide (x5_1 < (l0.length : Int)) = true := decide_eq_true c3
          clear c3
          by_cases c4 : 0 ≤ x5_1
          · rw [if_pos c4] at H
            have c4b0 : decide (0 ≤ x5_1) = true := decide_eq_true c4
            clear c4
            replace H := Option.bind_eq_some_iff.mp H
            obtain ⟨⟨t185, t186⟩, A50, H⟩ := H
            replace H : (if t186 = 0 then (if x4_1.size + t185.size ≤ 9223372036854775807 then (spigotref08_Forms_p.l0 k1 l0 (x4_1 ++ t185) (wrap64 (x5_1 + 1))) else (none)) else (some ((⟨#[]⟩ : ByteArray), t186))) = some (r1, r2) := H
            have A5 := Aside0.mk A50
            clear A50
            by_cases c6 : t186 = 0
            · rw [if_pos c6] at H
              have c6b0 : (t186 == 0) = true := beq_iff_eq.mpr c6
              have c6b1 : (t186 != 0) = false := bne_eq_false_iff_eq.mpr c6
              clear c6
              by_cases c7 : x4_1.size + t185.size ≤ 9223372036854775807
              · rw [if_pos c7] at H
                have c7b0 := eq_true c7
                have c7b1 : decide (x4_1.size + t185.size ≤ 9223372036854775807) = true := decide_eq_true c7
                try have c7b2 : (9223372036854775807 < x4_1.size + t185.size) = False := eq_false (Nat.not_lt.2 c7)
                try (have c7b3 := c7; simp only [ByteArray.size_append, sz_lit, List.length_cons, List.length_nil, Nat.zero_add] at c7b3; have c7b4 := eq_false (Nat.not_lt.2 c7b3))
                have H' := Aside0.mk H
                clear H
                have p184 : 0 ≤ (x5_1 : Int) := of_decide_eq_true (by first | (with_reducible assumption) | assumption)
                have q184 : x5_1 < (l0.length : Int) := of_decide_eq_true (by first | (with_reducible assumption) | assumption)
                obtain ⟨ad184, e184, hx184_0, hx184_1⟩ := at_T28 HR0.out x5_1 p184 q184
                cases e184
                replace hx184_0 := (HB.out.cell (World.block_lt_of_cell? w _ hx184_0)).trans hx184_0
                replace hx184_1 := (HB.out.cell (World.block_lt_of_cell? w _ hx184_1)).trans hx184_1
                replace p184 := eq_true p184
                replace q184 := eq_true q184
                go_wp2_with (first | ((with_reducible refine gate_callee (f := 15) rfl ?_); refine goesL_ (some 22) rfl rfl Tryd.func15 (by kernel_rfl) rfl #[.agg #[.int .i64 ((rd_T28 l0 x5_1).f0), .string ((rd_T28 l0 x5_1).f1)]] rfl (by (try simp only [List.map_toArray, List.map_cons, List.map_nil]); first | done | rfl | (simp only [List.length_drop, List.length_take]; rfl)) ?_; (with_reducible refine (spigotref08_Form.calls ((rd_T28 l0 x5_1).f0) ((rd_T28 l0 x5_1).f1) t185 t186 _ A5.out).mono ?_); rintro e w8 ⟨rfl, hb⟩; refine ⟨_, rfl, ?_⟩; have n0_ := Aside0.mk (below_step (by repeat (first | (with_reducible first | exact HB.out | apply below_alloc | apply pw_below_drewN | apply below_drew1) | exact HB.out)) hb); clear HB; have HB := n0_; clear n0_; (try clear hb); (try clear hb2); (try clear hk); (try clear hi)))
                go_roundg k1
                case measure => have := HK1.out; omega
                case rel => exact ⟨(x4_1 ++ t185), (wrap64 (x5_1 + 1)), (by first | rfl | (simp; done) | (simp [*]; done)), (by first | rfl | (simp; done) | (simp [*]; done)), H', ⟨by have := HK1.out; omega⟩, ⟨by repeat (first | (with_reducible first | exact HB.out | apply below_alloc | apply pw_below_drewN | apply below_drew1) | exact HB.out)⟩⟩
              · rw [if_neg c7] at H
                exact absurd H (by simp)
            · rw [if_neg c6] at H
              have c6b0 : (t186 == 0) = false := beq_eq_false_iff_ne.mpr c6
              have c6b1 : (t186 != 0) = true := bne_iff_ne.mpr c6
              simp only [Option.some.injEq, Prod.mk.injEq] at H
              obtain ⟨rfl, rfl⟩ := H
              have p184 : 0 ≤ (x5_1 : Int) := of_decide_eq_true (by first | (with_reducible assumption) | assumption)
              have q184 : x5_1 < (l0.length : Int) := of_decide_eq_true (by first | (with_reducible assumption) | assumption)
              obtain ⟨ad184, e184, hx184_0, hx184_1⟩ := at_T28 HR0.out x5_1 p184 q184
              cases e184
              replace hx184_0 := (HB.out.cell (World.block_lt_of_cell? w _ hx184_0)).trans hx184_0
              replace hx184_1 := (HB.out.cell (World.block_lt_of_cell? w _ hx184_1)).trans hx184_1
              replace p184 := eq_true p184
              replace q184 := eq_true q184
              go_wp2_with (first | ((with_reducible refine gate_callee (f := 15) rfl ?_); refine goesL_ (some 22) rfl rfl Tryd.func15 (by kernel_rfl) rfl #[.agg #[.int .i64 ((rd_T28 l0 x5_1).f0), .string ((rd_T28 l0 x5_1).f1)]] rfl (by (try simp only [List.map_toArray, List.map_cons, List.map_nil]); first | done | rfl | (simp only [List.length_drop, List.length_take]; rfl)) ?_; (with_reducible refine (spigotref08_Form.calls ((rd_T28 l0 x5_1).f0) ((rd_T28 l0 x5_1).f1) t185 t186 _ A5.out).mono ?_); rintro e w9 ⟨rfl, hb⟩; refine ⟨_, rfl, ?_⟩; have n0_ := Aside0.mk (below_step (by repeat (first | (with_reducible first | exact HB.out | apply below_alloc | apply pw_below_drewN | apply below_drew1) | exact HB.out)) hb); clear HB; have HB := n0_; clear n0_; (try clear hb); (try clear hb2); (try clear hk); (try clear hi)))
              go_ret2
              exact ⟨by first | rfl | (simp [errW_none, errW_some] <;> rfl) | (simp [*, errW_none, errW_some] <;> rfl), by repeat (first | (with_reducible first | exact HB.out | apply below_alloc | apply pw_below_drewN | apply below_drew1) | exact HB.out)⟩
          · rw [if_neg c4] at H
            exact absurd H (by simp)
        · rw [if_neg c3] at H
          have c3b0 : decide (x5_1 < (l0.length : Int)) = false := decide_eq_false c3
          clear c3
          simp only [Option.some.injEq, Prod.mk.injEq] at H
          obtain ⟨rfl, rfl⟩ := H
          go_wp2
          go_ret2
          exact ⟨by first | rfl | (simp [errW_none, errW_some] <;> rfl) | (simp [*, errW_none, errW_some] <;> rfl), by repeat (first | (with_reducible first | exact HB.out | apply below_alloc | apply pw_below_drewN | apply below_drew1) | exact HB.out)⟩
/-! ### spigotref08_Forms: function 17 -/
--needs 16
def pairG (x : S28) : Int × List UInt8 := (x.f0, x.f1.data.toList)
def smallG (l : List S28) : Bool := l.all fun x => decide (x.f1.size ≤ 70368744177664)
theorem spigotref08_Forms_loop (l : List S28) (hl : l.length ≤ 64) (hs : smallG l = true) (d : Nat) : ∀ (k i : Nat) (acc : ByteArray), i ≤ l.length → l.length - i ≤ d → d < k → acc.size ≤ 519 * i →
    spigotref08_Forms_p.l0 k l acc (i : Int) = some (⟨(formsAcc acc.data.toList ((l.map pairG).drop i)).1.toArray⟩, ((formsAcc acc.data.toList ((l.map pairG).drop i)).2 : Int)) := by
  induction d with
  | zero =>
    intro k i acc hi hd hk ha
    obtain ⟨k, rfl⟩ : ∃ m, k = m + 1 := ⟨k - 1, by omega⟩
    simp only [spigotref08_Forms_p.l0]
    rw [if_neg (by omega), List.drop_eq_nil_of_le (by rw [List.length_map]; omega), formsAcc_end]; rfl
  | succ d ih =>
    intro k i acc hi hd hk ha
    obtain ⟨k, rfl⟩ : ∃ m, k = m + 1 := ⟨k - 1, by omega⟩
    by_cases hlt : i < l.length
    · simp only [spigotref08_Forms_p.l0]
      have hg : rd_T28 l (i : Int) = l[i] := by simp [rd_T28, hlt]
      have hsm : l[i].f1.size ≤ 70368744177664 := by
        have := List.all_eq_true.1 hs l[i] (List.getElem_mem hlt); simpa using this
      have hdr : (l.map pairG).drop i = pairG l[i] :: (l.map pairG).drop (i + 1) := by
        rw [List.drop_eq_getElem_cons (by simpa using hlt)]; simp
      rw [if_pos (by omega), if_pos (by omega), hg, hdr]
      unfold spigotref08_Form.f
      rw [if_pos hsm]
      simp only [Option.bind_some]
      have hfl := formL_len l[i].f0 l[i].f1.data.toList
      by_cases he : (formL l[i].f0 l[i].f1.data.toList).2 = 0
      · have hsz : (⟨(formL l[i].f0 l[i].f1.data.toList).1.toArray⟩ : ByteArray).size = (formL l[i].f0 l[i].f1.data.toList).1.length := sz_lit _
        rw [if_pos (by omega), if_pos (by rw [hsz]; omega), show ((i : Int) + 1) = ((i + 1 : Nat) : Int) by omega, w64 (by omega) (by omega),
          ih k (i + 1) _ (by omega) (by omega) (by omega) (by rw [ByteArray.size_append, hsz]; omega), formsAcc_step _ _ _ he]
        have e : (acc ++ (⟨(formL l[i].f0 l[i].f1.data.toList).1.toArray⟩ : ByteArray)).data.toList = acc.data.toList ++ (formL (pairG l[i]).1 (pairG l[i]).2).1 := by simp [pairG]
        rw [e]
      · rw [if_neg (by omega), formsAcc_bad _ _ _ he]; rfl
    · simp only [spigotref08_Forms_p.l0]
      rw [if_neg (by omega), List.drop_eq_nil_of_le (by rw [List.length_map]; omega), formsAcc_end]; rfl
def spigotref08_Forms.f (l0 : List S28) : Option (ByteArray × Int) := if smallG l0 = true ∧ l0.length ≤ big then some (⟨(allFormsL (l0.map pairG)).1.toArray⟩, ((allFormsL (l0.map pairG)).2 : Int)) else none
theorem spigotref08_Forms.calls (A0 : Option Addr) (c0 : Nat) (l0 : List S28) (r1 : ByteArray) (r2 : Int) (w : World) (hr0 : Kd.C k28 w A0 l0.length l0) (hc0 : l0.length ≤ c0) (h : spigotref08_Forms.f l0 = some (r1, r2)) :
    Calls Tryd.prog 17 #[.slice A0 l0.length c0] w fun e w' => e = .returned (.tuple #[.string r1, .int .i64 r2]) ∧ Below w.heap.size w w' := by
  unfold spigotref08_Forms.f at h
  by_cases c : smallG l0 = true ∧ l0.length ≤ big
  · rw [if_pos c] at h
    refine spigotref08_Forms_p.calls 66 A0 c0 l0 r1 r2 w hr0 hc0 (Eq.trans ?_ h)
    unfold spigotref08_Forms_p.f allFormsL
    by_cases h64 : 64 < l0.length
    · rw [if_pos (by omega), if_pos (by simpa using h64)]; rfl
    · rw [if_neg (by omega), if_neg (by simpa using h64)]
      have := spigotref08_Forms_loop l0 (by omega) c.1 l0.length 66 0 ⟨#[]⟩ (by omega) (by omega) (by omega) (by simp [ByteArray.size])
      rw [show ((0 : Nat) : Int) = 0 from rfl, List.drop_zero] at this
      rw [this]
      have e : formsAcc (⟨#[]⟩ : ByteArray).data.toList (l0.map pairG) = formsL (l0.map pairG) := formsAcc_nil _
      rw [e]
  · rw [if_neg c] at h; cases h

end Go.Proofs.YtjppmjgpbemjlaaDoor.Q
