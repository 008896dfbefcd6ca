/- Each Go function that the laws of this seat reach, as a plain Lean function, and its contract: the machine's call does what that function says. -/
import Derived.Test.YtcjilccldfkhmaaDoorBx0
import Derived.Test.YtcjilccldfkhmaaDoorBx4
namespace Go.Proofs.YtcjilccldfkhmaaDoor.B
open Go.RowKit Go.Proofs.YtcjilccldfkhmaaDoorW.PrintWords Go.Proofs.YtcjilccldfkhmaaDoorW.PrintLast Go.Proofs.YtcjilccldfkhmaaDoorW.PrintMore
attribute [local go_sem] max2_int min2_int max_two min_two max_three min_three max_four min_four   -- for this text's walks alone
set_option linter.unusedVariables false
set_option linter.unusedSimpArgs false

--PART
/-! ### api_Phase: function 30 -/
def flatP (l : List S37) : List Value := l.flatMap fun x => [.int .i64 x.f0, .int .i64 x.f1]
theorem flatP_len (l : List S37) : (flatP l).length = l.length * 2 := by
  induction l with
  | nil => rfl
  | cons x l ih => unfold flatP at ih ⊢; rw [List.flatMap_cons, List.length_append, ih]; simp; omega
theorem flatP_at (l : List S37) : ∀ j, (flatP l)[j * 2]? = l[j]?.map (fun x => .int .i64 x.f0) ∧ (flatP l)[j * 2 + 1]? = l[j]?.map (fun x => .int .i64 x.f1) := by
  induction l with
  | nil => intro j; exact ⟨rfl, rfl⟩
  | cons x l ih =>
    intro j
    have e : flatP (x :: l) = .int .i64 x.f0 :: .int .i64 x.f1 :: flatP l := rfl
    rw [e]
    cases j with
    | zero => exact ⟨rfl, rfl⟩
    | succ j => rw [show (j + 1) * 2 = j * 2 + 1 + 1 by omega]; exact ih j
theorem flatP_reps (w : World) (base : Nat) (ok : Nat → Prop) : ∀ l : List S37, Reps (k37.M w base ok) 2 l (flatP l)
  | [] => Reps.none _ _
  | x :: l => Reps.c2 (k37_mkM _ _ _ x) (flatP_reps w base ok l)
theorem flatP_cells {w : World} {ad : Addr} {l : List S37} (h : Kd.C k37 w (some ad) l.length l) : ∀ J u, (flatP l)[J]? = some u → w.cell? (ad.add J) = some u := by
  intro J u hu
  obtain ⟨h1, h2⟩ := flatP_at l (J / 2)
  have hlt : J < (flatP l).length := (List.getElem?_eq_some_iff.1 hu).1
  rw [flatP_len] at hlt
  have hj : J / 2 < l.length := by omega
  obtain ⟨ad', e, c0, c1⟩ := at_T37 h ((J / 2 : Nat) : Int) (by omega) (by omega)
  cases e
  rw [Int.toNat_natCast] at c0 c1
  have hrd : rd_T37 l ((J / 2 : Nat) : Int) = l[J / 2] := rdP_at l (J / 2) hj
  rw [hrd] at c0 c1
  rw [List.getElem?_eq_getElem hj] at h1 h2
  generalize l[J / 2] = x at h1 h2 c0 c1
  rcases Nat.mod_two_eq_zero_or_one J with g | g
  · have eJ : J / 2 * 2 = J := by omega
    rw [eJ] at h1 c0
    rw [hu] at h1
    have : u = .int .i64 x.f0 := by simpa using h1
    rw [this]; exact c0
  · have eJ : J / 2 * 2 + 1 = J := by omega
    rw [eJ, hu] at h2
    have : u = .int .i64 x.f1 := by simpa using h2
    rw [this, ← eJ, add_field ad (J / 2 * 2) 1 (by omega)]
    exact c1
set_option maxRecDepth 100000 in
set_option maxHeartbeats 2000000 in
theorem clone_walk (ad : Addr) (c0 : Nat) (l0 : List S37) (w : World) (hr0 : Kd.C k37 w (some ad) l0.length l0) (hb : l0.length ≤ 1000) :
    Calls Tryd.prog 30 #[.slice (some ad) l0.length c0] w fun e w' => ∃ v0_ : Value, e = .returned (v0_) ∧ Kd.R k37 37 w' w.heap.size (fun _ => True) v0_ l0 ∧ Below w.heap.size w w' := by
  have qT : ∀ (w : World) (a : Option Addr) (n c n' c' : Nat), (binOp .eql 22 (.slice a n c) (.slice none n' c')).run Tryd.prog w = .ok (.bool a.isNone) w := fun w a n c n' c' => Lib.run_eql_slice_nil w _ _ a n c n' c' Tryd.underlying22
  obtain ⟨i0, hi, hz0, hz1, hz2⟩ := info_parts info37
  have hown : (w.alloc (.cells #[] 37)).ownsRow w.heap.size 37 2 (.slice (some ⟨w.heap.size, 0, none⟩) 0 0) 0 [] := World.ownsRow_made w #[] 0 (Nat.le_refl _) (by decide) rfl
  have hcells : ∀ j u, (flatP l0)[j]? = some u → (w.alloc (.cells #[] 37)).cell? (ad.add j) = some u := fun j u hu => cell_alloc_sl _ (flatP_cells hr0 j u hu)
  have hone : ∀ u ∈ flatP l0, u.oneCell' = true := by
    intro u hu
    unfold flatP at hu
    obtain ⟨x, _, hx⟩ := List.mem_flatMap.1 hu
    simp only [List.mem_cons, List.not_mem_nil, or_false] at hx
    rcases hx with rfl | rfl <;> rfl
  have HO := Aside0.mk hown
  have HC := Aside0.mk hcells
  have HN := Aside0.mk hone
  clear hown hcells hone hr0
  go_enter Tryd.func30, Tryd.ntmps30
  go_wp2_with (at_builtin; refine wpList_append_own _ rfl (.tmp 5) (.tmp 6) 22 rfl w.heap.size 37 i0 (.agg #[.int .i64 0, .int .i64 0]) 2 16 Tryd.underlying22 hi hz0 hz1 hz2 rfl (by decide) (.slice (some ⟨w.heap.size, 0, none⟩) 0 0) 0 [] rfl HO.out ad l0.length c0 (flatP l0) rfl (flatP_len l0) HC.out HN.out ?b1 ?b2 (by simp) ?_)
  case b1 => unfold maxLen; omega
  case b2 => omega
  intro v' w' hown' hgrow _
  have HW : Aside0 (Below w.heap.size w w') := ⟨((Below.refl _ _).alloc (Nat.le_refl _) _).grown hgrow (by simp) (fun k hk => by cases hk; exact Nat.le_refl _)⟩
  have HR : Aside0 (Kd.R k37 37 w' w.heap.size (fun _ => True) v' l0) := ⟨⟨fun _ _ => trivial, flatP l0, by exact hown', flatP_reps _ _ _ _⟩⟩
  clear hown' hgrow
  go_wp2
  go_ret
  exact ⟨v', rfl, HR.out, HW.out⟩
def api_Phase.f (l0 : List S37) : Option (List S37) := if l0.length ≤ 1000 then some l0 else none
theorem api_Phase.calls (A0 : Option Addr) (c0 : Nat) (l0 : List S37) (r : List S37) (w : World) (hr0 : Kd.C k37 w A0 l0.length l0) (hc0 : l0.length ≤ c0) (h : api_Phase.f l0 = some r) :
    Calls Tryd.prog 30 #[.slice A0 l0.length c0] w fun e w' => ∃ v0_ : Value, e = .returned (v0_) ∧ Kd.R k37 37 w' w.heap.size (fun _ => True) v0_ r ∧ Below w.heap.size w w' := by
  unfold api_Phase.f at h
  by_cases c : l0.length ≤ 1000
  · rw [if_pos c] at h
    obtain rfl := Option.some.inj h
    cases A0 with
    | some ad => exact clone_walk ad c0 l0 w hr0 c
    | none =>
      have hnil : l0 = [] := by
        cases l0 with
        | nil => rfl
        | cons x l =>
          obtain ⟨ad, e, -, -⟩ := at_T37 hr0 0 (by omega) (by simp)
          cases e
      subst hnil
      have qT : ∀ (w : World) (a : Option Addr) (n c n' c' : Nat), (binOp .eql 22 (.slice a n c) (.slice none n' c')).run Tryd.prog w = .ok (.bool a.isNone) w := fun w a n c n' c' => Lib.run_eql_slice_nil w _ _ a n c n' c' Tryd.underlying22
      clear hr0 hc0
      go_enter Tryd.func30, Tryd.ntmps30
      go_wp2
      go_ret
      exact ⟨_, rfl, Kd.R_nil _ _ _ _ _, Below.refl _ _⟩
  · rw [if_neg c] at h; cases h

end Go.Proofs.YtcjilccldfkhmaaDoor.B
