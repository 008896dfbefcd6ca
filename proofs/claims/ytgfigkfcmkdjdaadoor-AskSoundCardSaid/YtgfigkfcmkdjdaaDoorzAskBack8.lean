/- The functions that the law reaches, as plain Lean functions, and their contracts: texts merged. -/
import Derived.Laws.StructEq
import Derived.Test.YtgfigkfcmkdjdaaDoorzAskBack2
import Derived.Test.YtgfigkfcmkdjdaaDoorzAskBack0
import Derived.Test.YtgfigkfcmkdjdaaDoorzAskBack1
import Derived.Test.YtgfigkfcmkdjdaaDoorzAskBack3
section
namespace Go.Proofs.YtgfigkfcmkdjdaaDoor.B
open Go.RowKit Go.Proofs.YtgfigkfcmkdjdaaDoorW.PrintWords Go.Proofs.YtgfigkfcmkdjdaaDoorW.PrintLast Go.Proofs.YtgfigkfcmkdjdaaDoorW.PrintMore
attribute [local go_sem] max2_int min2_int max_two min_two max_three min_three max_four min_four   -- for this text's walks alone
set_option linter.unusedVariables false
set_option linter.unusedSimpArgs false
def strconv_Itoa.f (a0 : Int) : Option ByteArray := if 0 ≤ a0 ∧ a0 ≤ 9223372036854775807 then some (digitsB a0) else none
theorem strconv_Itoa.calls (a0 : Int) (r : ByteArray) (w : World) (hT_ : Aside0 (Tabs_ w)) (h : strconv_Itoa.f a0 = some r) :
    Calls Tryd.prog 49 #[.int .i64 a0] w fun e w' => e = .returned (.string r) ∧ Below w.heap.size w w' := by
  unfold strconv_Itoa.f at h
  by_cases c : 0 ≤ a0 ∧ a0 ≤ 9223372036854775807
  · rw [if_pos c] at h
    obtain rfl := Option.some.inj h
    refine (Tryd.strconv_Itoa a0 (by omega) c.2 w hT_.out.tab).mono ?_
    rintro e w' ⟨rfl, k, os, rfl⟩
    refine ⟨?_, Lib.below_grow _ w (Nat.le_refl _) k os⟩
    obtain ⟨n, rfl⟩ := Int.eq_ofNat_of_zero_le c.1
    unfold digitsB
    rw [Lib.itoa_nonneg, decDigits_digitsN, Int.toNat_natCast]
  · rw [if_neg c] at h; cases h
end Go.Proofs.YtgfigkfcmkdjdaaDoor.B
end
section
namespace Go.Proofs.YtgfigkfcmkdjdaaDoor.B
open Go.RowKit Go.Proofs.YtgfigkfcmkdjdaaDoorW.PrintWords Go.Proofs.YtgfigkfcmkdjdaaDoorW.PrintLast Go.Proofs.YtgfigkfcmkdjdaaDoorW.PrintMore
attribute [local go_sem] max2_int min2_int max_two min_two max_three min_three max_four min_four   -- for this text's walks alone
set_option linter.unusedVariables false
set_option linter.unusedSimpArgs false
theorem spot_of_cell {w : World} {a : Addr} {v : Value} (h : w.cell? a = some v) : a = ⟨a.block, a.off, none⟩ := by
  obtain ⟨b, o, s⟩ := a
  cases s with
  | none => rfl
  | some x =>
    unfold World.cell? at h
    split at h
    · simp at h
    · cases h
def joinB (l : List ByteArray) (sep : ByteArray) : ByteArray := ⟨(Lib.join (l.map (·.data.toList)) sep.data.toList).toArray⟩
def strings_Join.f (l0 : List ByteArray) (a1 : ByteArray) : Option ByteArray := if l0.length ≤ 140737488355328 ∧ (Lib.join (l0.map (·.data.toList)) a1.data.toList).length ≤ 140737488355328 then some (joinB l0 a1) else none
theorem strings_Join.calls (A0 : Option Addr) (c0 : Nat) (l0 : List ByteArray) (a1 : ByteArray) (r : ByteArray) (w : World) (hr0 : Kd.C Kd.string w A0 l0.length l0) (hc0 : l0.length ≤ c0) (h : strings_Join.f l0 a1 = some r) :
    Calls Tryd.prog 145 #[.slice A0 l0.length c0, .string a1] w fun e w' => e = .returned (.string r) ∧ Below w.heap.size w w' := by
  unfold strings_Join.f at h
  by_cases c : l0.length ≤ 140737488355328 ∧ (Lib.join (l0.map (·.data.toList)) a1.data.toList).length ≤ 140737488355328
  · rw [if_pos c] at h
    obtain rfl := Option.some.inj h
    by_cases hn : l0 = []
    · subst hn
      refine (Tryd.strings_Join_none A0 c0 a1 w).mono ?_
      rintro e w' ⟨rfl, rfl⟩
      exact ⟨rfl, Below.refl _ _⟩
    · have hpos := List.length_pos_iff.2 hn
      have hat : ∀ j : Nat, (hj : j < l0.length) → ∃ ad, A0 = some ad ∧ w.cell? (ad.add j) = some (.string l0[j]) := fun j hj => by
        obtain ⟨ad, cs, e, _, hK, hc⟩ := Kd.C_get hr0 ByteArray.empty (j : Int) (by omega) (by omega)
        refine ⟨ad, e, ?_⟩
        have hcs : cs = [.string (l0.getD ((j : Int)).toNat ByteArray.empty)] := hK
        have h1 := hc 0 (.string (l0.getD ((j : Int)).toNat ByteArray.empty)) (by rw [hcs]; rfl)
        have e1 : ((j : Int)).toNat * Kd.string.sz + 0 = j := by rw [Int.toNat_natCast]; show j * 1 + 0 = j; omega
        rw [e1] at h1
        rw [h1, Int.toNat_natCast, List.getD_eq_getElem?_getD, List.getElem?_eq_getElem hj]; rfl
      obtain ⟨ad, rfl, h0⟩ := hat 0 hpos
      have hsp := spot_of_cell (a := ad) h0
      have hcells : ∀ (j : Nat) x, l0[j]? = some x → w.cell? ⟨ad.block, ad.off + j, none⟩ = some (.string x) := fun j x hx => by
        obtain ⟨hj, rfl⟩ := List.getElem?_eq_some_iff.1 hx
        obtain ⟨ad2, e2, h2⟩ := hat j hj
        obtain rfl : ad = ad2 := Option.some.inj e2
        rw [← h2]
        unfold Addr.add
        split
        · rename_i hz; subst hz; rw [Nat.add_zero, ← hsp]
        · rfl
      have hlt : ad.block < w.heap.size := World.block_lt_of_cell? w _ h0
      have := Tryd.strings_Join ad.block ad.off c0 l0 a1 w hcells hlt (by omega) hc0 (by omega)
      rw [← hsp] at this
      exact this
  · rw [if_neg c] at h; cases h
end Go.Proofs.YtgfigkfcmkdjdaaDoor.B
end
section
namespace Go.Proofs.YtgfigkfcmkdjdaaDoor.B
open Go.RowKit Go.Proofs.YtgfigkfcmkdjdaaDoorW.PrintWords Go.Proofs.YtgfigkfcmkdjdaaDoorW.PrintLast Go.Proofs.YtgfigkfcmkdjdaaDoorW.PrintMore
attribute [local go_sem] max2_int min2_int max_two min_two max_three min_three max_four min_four   -- for this text's walks alone
set_option linter.unusedVariables false
set_option linter.unusedSimpArgs false
def ask_numbers.l0 : Nat → List ByteArray → List Int → Int → Int → Option (ByteArray)
  | 0, _, _, _, _ => none
  | k + 1, x3, x6, x7, x8 => if x8 < x7 then (if 0 ≤ x8 then (if x8 < (x6.length : Int) then ((strconv_Itoa.f (rd x6 x8)).bind fun t131 => (if x3.length < 8796093022208 then (ask_numbers.l0 k (x3 ++ [t131]) x6 x7 (wrap64 (x8 + 1))) else (none))) else (none)) else (none)) else ((strings_Join.f x3 (⟨#[44]⟩ : ByteArray)).bind fun t135 => (some t135))
def ask_numbers.f (k : Nat) (l0 : List Int) : Option (ByteArray) := ask_numbers.l0 k ([] : List ByteArray) l0 (l0.length : Int) 0
theorem ask_numbers.mono_l : ∀ k, (∀ y0 y1 y2 y3, LeO (ask_numbers.l0 k y0 y1 y2 y3) (ask_numbers.l0 (k + 1) y0 y1 y2 y3))
  | 0 => fun _ _ _ _ r h => by simp [ask_numbers.l0] at h
  | k + 1 => by
    have ih0 := ask_numbers.mono_l k
    · intro y0 y1 y2 y3
      unfold ask_numbers.l0
      repeat' first
      | (with_reducible exact ih0 _ _ _ _)
      | (with_reducible exact LeO.refl _)
      | (with_reducible exact LeO.none _)
      | (with_reducible refine LeO.ite ?_ ?_)
      | (with_reducible refine LeO.bind ?_ (fun _ => ?_))
      | exact ih0 _ _ _ _
      | exact LeO.none _
      | refine LeO.ite ?_ ?_
      | refine LeO.bind ?_ (fun _ => ?_)
theorem ask_numbers.mono : ∀ a0 k, LeO (ask_numbers.f k a0) (ask_numbers.f (k + 1) a0) := by
  intro a0 k
  have ih0 := ask_numbers.mono_l k
  unfold ask_numbers.f
  repeat' first
      | (with_reducible exact ih0 _ _ _ _)
      | (with_reducible exact LeO.refl _)
      | (with_reducible exact LeO.none _)
      | (with_reducible refine LeO.ite ?_ ?_)
      | (with_reducible refine LeO.bind ?_ (fun _ => ?_))
      | exact ih0 _ _ _ _
      | exact LeO.none _
      | refine LeO.ite ?_ ?_
      | refine LeO.bind ?_ (fun _ => ?_)
set_option maxHeartbeats 8000000 in
set_option maxRecDepth 100000 in
theorem ask_numbers.calls (k : Nat) (A0 : Option Addr) (c0 : Nat) (l0 : List Int) (r : ByteArray) (w : World) (hT_ : Aside0 (Tabs_ w)) (hr0 : Kd.C (Kd.int .i64) w A0 l0.length l0) (hc0 : l0.length ≤ c0) (h : ask_numbers.f k l0 = some r) :
    Calls Tryd.prog 129 #[.slice A0 l0.length c0] w fun e w' => e = .returned (.string r) ∧ Below w.heap.size w w' := by
  have HR0 := Aside0.mk hr0
  have HC0 := Aside0.mk hc0
  clear hr0 hc0
  have HB := Aside0.mk (Below.refl w.heap.size w)
  have H : (ask_numbers.l0 k ([] : List ByteArray) l0 (l0.length : Int) 0) = some r := h
  clear h
  have H' := Aside0.mk H
  clear H
  go_enter Tryd.func129, Tryd.ntmps129
  go_wp2
  go_loopg [3, 8] k (fun kq v3 v8 w' => ∃ (x3_1 : List ByteArray) (x8_1 : Int), v8 = .int .i64 x8_1 ∧ Aside0 (ask_numbers.l0 kq x3_1 l0 (l0.length : Int) x8_1 = some r) ∧ Aside0 (kq ≤ k) ∧ Aside0 (Kd.R Kd.string 9 w' w.heap.size (fun _ => True) v3 x3_1) ∧ Aside0 (Below w.heap.size w w'))
  case atStart => exact ⟨(([] : List ByteArray)), (0), (by first | rfl | (simp; done) | (simp [*]; done)), H', ⟨Nat.le_refl _⟩, ⟨by first | exact Kd.R_nil _ _ _ _ _ | exact Kd.N_nil _ _ _ _ _ | exact Kd.V_nil _ _ _ _ _ | exact Kd.Q_nil _ _ _ _ _ | exact Kd.S_nil _ _ _ _ _⟩, ⟨by repeat (first | (with_reducible first | exact HB.out | apply below_alloc | apply pw_below_drewN | apply below_drew1) | exact HB.out)⟩⟩
  case round =>
    clear H'
    try clear c1
    obtain ⟨x3_1, x8_1, rfl, HA, HK1, HO_3, HB⟩ := hrel
    cases gk with
    | zero => exact absurd HA.out (by simp [ask_numbers.l0])
    | succ k1 =>
      have H := HA.out
      clear HA
      simp only [ask_numbers.l0] at H
      by_cases c2 : x8_1 < (l0.length : Int)
      · rw [if_pos c2] at H
        have c2b0 : decide (x8_1 < (l0.length : Int)) = true := decide_eq_true c2
        clear c2
        by_cases c3 : 0 ≤ x8_1
        · rw [if_pos c3] at H
          have c3b0 : decide (0 ≤ x8_1) = true := decide_eq_true c3
          clear c3
          by_cases c4 : x8_1 < (l0.length : Int)
          · rw [if_pos c4] at H
            have c4b0 : decide (x8_1 < (l0.length : Int)) = true := decide_eq_true c4
            clear c4
            replace H := Option.bind_eq_some_iff.mp H
            obtain ⟨t131, A50, H⟩ := H
            replace H : (if x3_1.length < 8796093022208 then (ask_numbers.l0 k1 (x3_1 ++ [t131]) l0 (l0.length : Int) (wrap64 (x8_1 + 1))) else (none)) = some r := H
            have A5 := Aside0.mk A50
            clear A50
            by_cases c6 : x3_1.length < 8796093022208
            · rw [if_pos c6] at H
              have LMc6 := Aside0.mk c6
              clear c6
              obtain ⟨y132, hy132⟩ : ∃ y_ : List ByteArray, y_ = (x3_1 ++ [t131]) := ⟨_, rfl⟩
              replace H : (ask_numbers.l0 k1 y132 l0 (l0.length : Int) (wrap64 (x8_1 + 1))) = some r := by first | (rw [hy132]; with_reducible exact H) | (have H2_ := (Option.bind_some _ _).symm.trans H; rw [hy132]; with_reducible exact H2_) | (have H2_ := (Option.bind_some _ _).symm.trans H; with_reducible exact H2_) | with_reducible exact H | (rw [hy132]; exact H) | exact H
              have Ny132 := Aside0.mk hy132
              clear hy132
              have H' := Aside0.mk H
              clear H
              have p130 : 0 ≤ (x8_1 : Int) := of_decide_eq_true (by first | (with_reducible assumption) | assumption)
              have q130 : x8_1 < (l0.length : Int) := of_decide_eq_true (by first | (with_reducible assumption) | assumption)
              obtain ⟨ad130, e130, hx130_0⟩ := Kd.at_int HR0.out x8_1 p130 q130
              cases e130
              replace hx130_0 := (HB.out.cell (World.block_lt_of_cell? w _ hx130_0)).trans hx130_0
              replace p130 := eq_true p130
              replace q130 := eq_true q130
              go_wp2_with (first | ((with_reducible refine gate_callee (f := 49) rfl ?_); refine goesL_ (some 14) rfl rfl Tryd.func49 (by kernel_rfl) rfl #[.int .i64 (rd l0 x8_1)] rfl (by (try simp only [List.map_toArray, List.map_cons, List.map_nil]); first | done | rfl | (simp only [List.length_drop, List.length_take]; rfl)) ?_; (with_reducible refine (strconv_Itoa.calls (rd l0 x8_1) t131 _ ?side1 A5.out).mono ?_); (case side1 => exact Aside0.mk (Tabs_.below hT_.out (by repeat (first | (with_reducible first | exact HB.out | apply below_alloc | apply pw_below_drewN | apply below_drew1) | exact HB.out)))); rintro e w7 ⟨rfl, hb⟩; refine ⟨_, rfl, ?_⟩; have n0_ := Aside0.mk (Kd.R_below (by (with_reducible repeat (first | apply Kd.R_alloc | apply Kd.R_drewN | apply Kd.R_drew)); exact HO_3.out) hb); have n1_ := Aside0.mk (below_step (by repeat (first | (with_reducible first | exact HB.out | apply below_alloc | apply pw_below_drewN | apply below_drew1) | exact HB.out)) hb); clear HO_3; clear HB; have HO_3 := n0_; have HB := n1_; clear n0_ n1_; (try clear hb); (try clear hb2); (try clear hk); (try clear hi)) | ((with_reducible refine gate_builtin (b := .append) (xs := #[.tmp 12, .tmp 15]) rfl ?_); at_builtin; refine Kd.R_append Kd.string (w0 := w) w.heap.size rfl (.tmp 12) (.tmp 15) 110 9 (.string ⟨#[]⟩) 16 rfl Tryd.underlying110 info9 rfl (by decide) (by omega) u3 x3_1 t131 [.string t131] (fun _ => True) (fun _ => False) rfl rfl ?aP (fun _ hk => hk.elim) ?aF ?aO ?aB ?aS ?aL ?_; (case aP => exact rfl); (case aB => exact (by repeat (first | (with_reducible first | exact HB.out | apply below_alloc | apply pw_below_drewN | apply below_drew1) | exact HB.out))); (case aF => exact (fun _ _ => trivial)); (case aO => exact (by (with_reducible repeat (first | apply Kd.R_alloc | apply Kd.R_drewN | apply Kd.R_drew)); exact HO_3.out)); (case aS => exact (below_size (by repeat (first | (with_reducible first | exact HB.out | apply below_alloc | apply pw_below_drewN | apply below_drew1) | exact HB.out)))); (case aL => have := LMc6.out; omega); intro v133 w8 ho hb hg hat; rw [← Ny132.out] at ho; have n0_ := Aside0.mk (hb); have n1_ := Aside0.mk (ho); clear HB; clear HO_3; have HB := n0_; have HO134 := n1_; clear n0_ n1_; clear ho hb hg hat))
              go_roundg k1
              case measure => have := HK1.out; omega
              case rel => exact ⟨(y132), (wrap64 (x8_1 + 1)), (by first | rfl | (simp; done) | (simp [*]; done)), H', ⟨by have := HK1.out; omega⟩, ⟨by (with_reducible repeat (first | apply Kd.R_alloc | apply Kd.R_drewN | apply Kd.R_drew)); exact HO134.out⟩, ⟨by repeat (first | (with_reducible first | exact HB.out | apply below_alloc | apply pw_below_drewN | apply below_drew1) | exact HB.out)⟩⟩
            · rw [if_neg c6] at H
              exact absurd H (by simp)
          · rw [if_neg c4] at H
            exact absurd H (by simp)
        · rw [if_neg c3] at H
          exact absurd H (by simp)
      · rw [if_neg c2] at H
        have c2b0 : decide (x8_1 < (l0.length : Int)) = false := decide_eq_false c2
        clear c2
        replace H := Option.bind_eq_some_iff.mp H
        obtain ⟨t135, A90, H⟩ := H
        replace H : (some t135) = some r := H
        have A9 := Aside0.mk A90
        clear A90
        obtain rfl := Option.some.inj H
        obtain ⟨Ao10, co10, eo10⟩ := Kd.R_slice HO_3.out
        subst eo10
        go_wp2_with (first | ((with_reducible refine gate_callee (f := 145) rfl ?_); refine goesL_ (some 19) rfl rfl Tryd.func145 (by kernel_rfl) rfl #[.slice Ao10 x3_1.length co10, .string (⟨#[44]⟩ : ByteArray)] rfl (by (try simp only [List.map_toArray, List.map_cons, List.map_nil]); first | done | rfl | (simp only [List.length_drop, List.length_take]; rfl)) ?_; (with_reducible refine (strings_Join.calls _ _ x3_1 (⟨#[44]⟩ : ByteArray) t135 _ ?side1 ?side2 A9.out).mono ?_); (case side1 => repeat (first | exact (Kd.R_reads' HO_3.out).2.2 | (with_reducible refine Kd.C_alloc ?_ _) | (with_reducible refine Kd.C_drewN ?_ _) | (with_reducible refine Kd.C_drew ?_))); (case side2 => exact (Kd.R_reads' HO_3.out).2.1); rintro e w11 ⟨rfl, hb⟩; refine ⟨_, rfl, ?_⟩; have n0_ := Aside0.mk (Kd.R_below (by (with_reducible repeat (first | apply Kd.R_alloc | apply Kd.R_drewN | apply Kd.R_drew)); exact HO_3.out) hb); have n1_ := Aside0.mk (below_step (by repeat (first | (with_reducible first | exact HB.out | apply below_alloc | apply pw_below_drewN | apply below_drew1) | exact HB.out)) hb); clear HO_3; clear HB; have HO_3 := n0_; have HB := n1_; clear n0_ n1_; (try clear hb); (try clear hb2); (try clear hk); (try clear hi)))
        go_ret
        exact ⟨by first | rfl | (simp [errW_none, errW_some] <;> rfl) | (simp [*, errW_none, errW_some] <;> rfl), by repeat (first | (with_reducible first | exact HB.out | apply below_alloc | apply pw_below_drewN | apply below_drew1) | exact HB.out)⟩
end Go.Proofs.YtgfigkfcmkdjdaaDoor.B
end
section
namespace Go.Proofs.YtgfigkfcmkdjdaaDoor.B
open Go.RowKit Go.Proofs.YtgfigkfcmkdjdaaDoorW.PrintWords Go.Proofs.YtgfigkfcmkdjdaaDoorW.PrintLast Go.Proofs.YtgfigkfcmkdjdaaDoorW.PrintMore
attribute [local go_sem] max2_int min2_int max_two min_two max_three min_three max_four min_four   -- for this text's walks alone
set_option linter.unusedVariables false
set_option linter.unusedSimpArgs false
theorem i64_35 : i64ok 35 := i64ok_of (by decide) (by decide)
set_option maxRecDepth 100000 in
theorem form_is (g : Nat) (p : PlS) (F : FormS) (k : Nat) (w : World) (h : FormIs g p F k w) :
    Calls Tryd.prog 102 #[.pointer (some ⟨g, 0, none⟩)] w fun e w' => e = .returned (.bool true) ∧ w' = w := by
  have h1 := h.c1
  have hm := map_ne p.v w
  go_enter Tryd.func102, Tryd.ntmps102
  go_wp2
  go_ret
  exact ⟨rfl, rfl⟩
theorem form_has (g : Nat) (p : PlS) (F : FormS) (k : Nat) (w : World) (h : FormIs g p F k w) (t : Int) (ht : i64ok t) :
    Calls Tryd.prog 101 #[.pointer (some ⟨g, 0, none⟩), .int .i64 t] w fun e w' => e = .returned (.bool (F.vals t).isSome) ∧ w' = w := by
  have h1 := h.c1
  have hl := h.vals.has t ht
  go_enter Tryd.func101, Tryd.ntmps101
  go_wp2
  go_ret
  exact ⟨rfl, rfl⟩
set_option maxRecDepth 100000 in
theorem form_kind (g : Nat) (p : PlS) (F : FormS) (k : Nat) (w : World) (h : FormIs g p F k w) (hk : k < 9223372036854775807) :
    Calls Tryd.prog 59 #[.pointer (some ⟨g, 0, none⟩)] w fun e w' => e = .returned (.string ((F.vals 35).getD ⟨#[]⟩)) ∧
      (F.e ≠ 0 → w' = w) ∧ (F.e = 0 → FormIs g p { F with asked := fun x => if x = 35 then true else F.asked x } (k + 1) w' ∧ Turned (FormB g p) w w') := by
  have h1 := h.c1
  have h2 := h.c2
  have h4 := h.c4
  have hl := h.vals.look 35 i64_35
  have HF := Aside0.mk h
  have HIs := Aside0.mk (form_is g p F k w h)
  by_cases c : F.e = 0
  · have t1 : (F.e == 0) = true := by rw [c]; rfl
    obtain ⟨w1, hrun, hA, hgr⟩ := h.asked.put 35 i64_35 hk
    have HT : Aside0 (Turned (FormB g p) w w1) := ⟨Turned.of_grown hgr (.inr rfl)⟩
    have HF1 := Aside0.mk (h.ask hA hgr)
    have hv1 := HF1.out.vals.look 35 i64_35
    have h11 := HF1.out.c1
    clear hgr hA
    go_enter Tryd.func59, Tryd.ntmps59
    go_wp2_with (go_at_call 102; refine HIs.out.mono ?_; rintro e w' ⟨rfl, rfl⟩)
    go_ret
    exact ⟨rfl, fun e => absurd c e, fun _ => ⟨HF1.out, HT.out⟩⟩
  · have t1 : (F.e == 0) = false := by rw [beq_eq_false_iff_ne]; exact c
    go_enter Tryd.func59, Tryd.ntmps59
    go_wp2_with (go_at_call 102; refine HIs.out.mono ?_; rintro e w' ⟨rfl, rfl⟩)
    go_ret
    exact ⟨rfl, fun _ => rfl, fun e => absurd e c⟩
set_option maxRecDepth 100000 in
theorem form_done_e (g : Nat) (p : PlS) (F : FormS) (k : Nat) (w : World) (h : FormIs g p F k w) (he : F.e ≠ 0) :
    Calls Tryd.prog 62 #[.pointer (some ⟨g, 0, none⟩)] w fun e w' => e = .returned (.tuple #[.int .i64 F.tag, .int .i64 F.e]) ∧ ∃ q, w' = w.drewN q := by
  have h3 := h.c3
  have h4 := h.c4
  have HIs := Aside0.mk (form_is g p F k w h)
  have t1 : (F.e == 0) = false := by rw [beq_eq_false_iff_ne]; exact he
  have t2 : (F.e != 0) = true := by rw [bne_iff_ne]; exact he
  go_enter Tryd.func62, Tryd.ntmps62
  go_wp2_with (go_at_call 102; refine HIs.out.mono ?_; rintro e w' ⟨rfl, rfl⟩)
  go_quiet (fail)
  go_wp2
  go_ret2
  exact ⟨rfl, _, rfl⟩
def spareL (asked : Int → Bool) : List Int → Int × Int
  | [] => (0, 0)
  | t :: r => if asked t then spareL asked r else (t, 113)
theorem spareL_cons (asked : Int → Bool) (t : Int) (r : List Int) : spareL asked (t :: r) = if asked t then spareL asked r else (t, 113) := rfl
set_option maxRecDepth 100000 in
set_option maxHeartbeats 4000000 in
theorem form_done_ok (g : Nat) (p : PlS) (F : FormS) (k : Nat) (w : World) (h : FormIs g p F k w) (he : F.e = 0) (hlen : F.order.length ≤ 4611686018427387904) :
    Calls Tryd.prog 62 #[.pointer (some ⟨g, 0, none⟩)] w fun e w' => e = .returned (.tuple #[.int .i64 (spareL F.asked F.order).1, .int .i64 (spareL F.asked F.order).2]) ∧ w' = w := by
  have h0 := h.c0
  have h2 := h.c2
  have h4 := h.c4
  have HF := Aside0.mk h
  have HIs := Aside0.mk (form_is g p F k w h)
  have t2 : (F.e != 0) = false := by rw [he]; rfl
  go_enter Tryd.func62, Tryd.ntmps62
  go_wp2_with (go_at_call 102; refine HIs.out.mono ?_; rintro e w' ⟨rfl, hh⟩; obtain rfl : w = w' := hh.symm)
  go_loopw [29] (fun v29 wr => ∃ i : Nat, v29 = .int .i64 (i : Int) ∧ i ≤ F.order.length ∧ wr = w ∧ Aside0 (spareL F.asked (F.order.drop i) = spareL F.asked F.order)) (fun v29 _ => F.order.length - (intOf v29).toNat)
  case atStart => exact ⟨0, rfl, Nat.zero_le _, rfl, ⟨rfl⟩⟩
  case round =>
    obtain ⟨i, rfl, hi, rfl, HA⟩ := hrel
    by_cases hlt : i < F.order.length
    · obtain ⟨ad, hA, hc, ht⟩ := HF.out.ord i hlt
      have t1 : decide ((i : Int) < (F.order.length : Int)) = true := by rw [decide_eq_true_eq]; omega
      have hl := HF.out.asked.look _ ht
      have hd : F.order.drop i = F.order.getD i 0 :: F.order.drop (i + 1) := by
        rw [List.drop_eq_getElem_cons hlt, List.getD_eq_getElem?_getD, List.getElem?_eq_getElem hlt]; rfl
      rw [hA] at h0
      rw [hA]
      rw [hd, spareL_cons] at HA
      generalize hx : F.order.getD i 0 = x at *
      by_cases ca : F.asked x = true
      · have HA2 : Aside0 (spareL F.asked (F.order.drop (i + 1)) = spareL F.asked F.order) := ⟨by have h1 := HA.out; rw [if_pos ca] at h1; exact h1⟩
        clear HA hd hx ht hA
        rw [ca] at hl
        go_wp2
        refine ⟨⟨i + 1, by rw [show ((i + 1 : Nat) : Int) = (i : Int) + 1 by omega], by omega, trivial, HA2⟩, ?_⟩
        show F.order.length - ((i : Int) + 1).toNat < F.order.length - ((i : Int)).toNat
        omega
      · have ca' : F.asked x = false := by simpa using ca
        have HA2 : Aside0 ((x, (113 : Int)) = spareL F.asked F.order) := ⟨by have h1 := HA.out; rw [if_neg ca] at h1; exact h1⟩
        clear HA hd hx ht hA
        rw [ca'] at hl
        go_wp2
        go_ret2
        rw [← HA2.out]
        exact ⟨rfl, rfl⟩
    · have t1 : decide ((i : Int) < (F.order.length : Int)) = false := by rw [decide_eq_false_iff_not]; omega
      have HA2 : Aside0 (((0 : Int), (0 : Int)) = spareL F.asked F.order) := ⟨by have h1 := HA.out; rw [List.drop_eq_nil_of_le (by omega)] at h1; exact h1⟩
      clear HA
      go_wp2
      go_ret2
      rw [← HA2.out]
      exact ⟨rfl, rfl⟩
def doneL (F : FormS) : Int × Int := if F.e ≠ 0 then (F.tag, F.e) else spareL F.asked F.order
end Go.Proofs.YtgfigkfcmkdjdaaDoor.B
end
section
namespace Go.Proofs.YtgfigkfcmkdjdaaDoor.B
open Go.RowKit Go.Proofs.YtgfigkfcmkdjdaaDoorW.PrintWords Go.Proofs.YtgfigkfcmkdjdaaDoorW.PrintLast Go.Proofs.YtgfigkfcmkdjdaaDoorW.PrintMore
attribute [local go_sem] max2_int min2_int max_two min_two max_three min_three max_four min_four   -- for this text's walks alone
set_option linter.unusedVariables false
set_option linter.unusedSimpArgs false
def tag_number.f (a0 : ByteArray) : Option (Int × Int × Int) := if a0.size ≤ big then some (((numL a0.data.toList 0 0).1 : Int), ((numL a0.data.toList 0 0).2.1 : Int), ((numL a0.data.toList 0 0).2.2 : Int)) else none
theorem drop_cons (s : ByteArray) (pos : Nat) (h : pos < s.size) : s.data.toList.drop pos = s[pos]'h :: s.data.toList.drop (pos + 1) := by
  rw [List.drop_eq_getElem_cons (by rw [size_list]; exact h)]; rfl
theorem numL_sep (b : UInt8) (t : List UInt8) (i tg : Nat) (h : b.toNat = 61) (hi : 0 < i) : numL (b :: t) i tg = (tg, i + 1, 0) := by unfold numL; rw [if_pos ⟨h, hi⟩]
theorem numL_bad (b : UInt8) (t : List UInt8) (i tg : Nat) (h : ¬ (b.toNat = 61 ∧ 0 < i)) (h2 : ¬ isDig b ∨ (b.toNat = 48 ∧ i = 0)) : numL (b :: t) i tg = (0, 0, 80) := by unfold numL; rw [if_neg h, if_pos h2]
theorem numL_big (b : UInt8) (t : List UInt8) (i tg : Nat) (h : isDig b) (h2 : ¬ (b.toNat = 48 ∧ i = 0)) (h3 : 99999 < 10 * tg + (b.toNat - 48)) : numL (b :: t) i tg = (0, 0, 80) := by
  unfold numL; rw [if_neg (by unfold isDig at h; omega), if_neg (fun g => g.elim (fun g => g h) h2), if_pos h3]
theorem numL_go (b : UInt8) (t : List UInt8) (i tg : Nat) (h : isDig b) (h2 : ¬ (b.toNat = 48 ∧ i = 0)) (h3 : ¬ 99999 < 10 * tg + (b.toNat - 48)) : numL (b :: t) i tg = numL t (i + 1) (10 * tg + (b.toNat - 48)) := by
  conv => lhs; unfold numL
  rw [if_neg (by unfold isDig at h; omega), if_neg (fun g => g.elim (fun g => g h) h2), if_neg h3]
def NumIs (l : List UInt8) (w : World) (e : Ending) (w' : World) : Prop := e = .returned (.tuple #[.int .i64 ((numL l 0 0).1 : Int), .int .i64 ((numL l 0 0).2.1 : Int), .int .i64 ((numL l 0 0).2.2 : Int)]) ∧ Below w.heap.size w w'
theorem NumIs.mk_ {l : List UInt8} {w w' : World} {a b c : Nat} (h : (a, b, c) = numL l 0 0) (hw : Below w.heap.size w w') : NumIs l w (.returned (.tuple #[.int .i64 (a : Int), .int .i64 (b : Int), .int .i64 (c : Int)])) w' := by
  unfold NumIs; rw [← h]; exact ⟨rfl, hw⟩
set_option maxHeartbeats 1000000 in
theorem tag_number_walk (s : ByteArray) (w : World) (hs : s.size ≤ big) :
    Calls Tryd.prog 140 #[.string s] w (NumIs s.data.toList w) := by
  unfold big at hs
  go_enter Tryd.func140, Tryd.ntmps140
  go_wp2
  go_loopw [2] (fun t w' => ∃ pos tg : Nat, w' = w.iter s pos ∧ t = .int .i64 (tg : Int) ∧ pos ≤ s.size ∧ tg ≤ 99999 ∧ Aside0 (numL (s.data.toList.drop pos) pos tg = numL s.data.toList 0 0)) (fun _ w' => s.size - w'.iterPos w.heap.size)
  case atStart => exact ⟨0, 0, rfl, rfl, Nat.zero_le _, by omega, ⟨rfl⟩⟩
  case round =>
    obtain ⟨pos, tg, rfl, rfl, hpos, htg, hA⟩ := hrel
    have hBel : Aside0 (∀ p, Below w.heap.size w (w.iter s p)) := ⟨fun p => (Below.refl _ _).alloc (Nat.le_refl _) _⟩
    by_cases hp : pos < s.size
    · have hcons := drop_cons s pos hp
      by_cases ha : (s[pos]'hp).toNat < 128
      · have hnx : ∀ ty, (Instr.next (.pointer (some ⟨w.heap.size, 0, none⟩)) true ty).run Tryd.prog (w.iter s pos) = _ := fun ty => run_next_ascii w s pos ty hp ha
        rw [hcons] at hA
        clear hcons
        generalize s[pos]'hp = b at *
        have hb48 : isDig b ↔ 48 ≤ b.toNat ∧ b.toNat ≤ 57 := Iff.rfl
        generalize hN : b.toNat = n at *
        by_cases c1 : n = 61 ∧ 0 < pos
        · obtain ⟨rfl, c1⟩ := c1
          have HF := Aside0.mk (hA.out.symm.trans (numL_sep b _ pos tg hN c1))
          clear hA hb48 hN
          go_wp2
          go_ret3
          exact NumIs.mk_ (a := tg) (b := pos + 1) (c := 0) HF.out.symm (hBel.out _)
        · have hbad : ∀ (hb : ¬ isDig b ∨ (b.toNat = 48 ∧ pos = 0)), Aside0 (numL s.data.toList 0 0 = (0, 0, 80)) := fun hb => ⟨hA.out.symm.trans (numL_bad b _ pos tg (by rw [hN]; exact c1) hb)⟩
          by_cases c2 : n < 48
          · have HF := hbad (.inl (by rw [hb48]; omega))
            have t1 : ((n : Int) == 61) = false := by rw [beq_eq_false_iff_ne]; omega
            have t2 : decide ((n : Int) < 48) = true := by rw [decide_eq_true_eq]; omega
            clear hA hb48 hN hbad c1 c2
            go_wp2
            go_ret3
            exact NumIs.mk_ (a := 0) (b := 0) (c := 80) HF.out.symm (hBel.out _)
          by_cases c3 : 57 < n
          · have HF := hbad (.inl (by rw [hb48]; omega))
            have t2 : decide ((n : Int) < 48) = false := by rw [decide_eq_false_iff_not]; omega
            have t3 : decide ((57 : Int) < n) = true := by rw [decide_eq_true_eq]; omega
            by_cases c4 : n = 61
            · obtain rfl : pos = 0 := by omega
              subst c4
              clear hA hb48 hN hbad c1 c2 c3
              go_wp2
              go_ret3
              exact NumIs.mk_ (a := 0) (b := 0) (c := 80) HF.out.symm (hBel.out _)
            · have t1 : ((n : Int) == 61) = false := by rw [beq_eq_false_iff_ne]; omega
              clear hA hb48 hN hbad c1 c2 c3 c4
              go_wp2
              go_ret3
              exact NumIs.mk_ (a := 0) (b := 0) (c := 80) HF.out.symm (hBel.out _)
          have t1 : ((n : Int) == 61) = false := by rw [beq_eq_false_iff_ne]; omega
          have t2 : decide ((n : Int) < 48) = false := by rw [decide_eq_false_iff_not]; omega
          have t3 : decide ((57 : Int) < n) = false := by rw [decide_eq_false_iff_not]; omega
          by_cases c4 : n = 48 ∧ pos = 0
          · have HF := hbad (.inr (by rw [hN]; exact c4))
            obtain ⟨rfl, rfl⟩ := c4
            clear hA hb48 hN hbad c1 c2 c3
            go_wp2
            go_ret3
            exact NumIs.mk_ (a := 0) (b := 0) (c := 80) HF.out.symm (hBel.out _)
          have hgo := numL_go b (s.data.toList.drop (pos + 1)) pos tg (hb48.2 (by omega)) (by rw [hN]; exact c4)
          have hbg := numL_big b (s.data.toList.drop (pos + 1)) pos tg (hb48.2 (by omega)) (by rw [hN]; exact c4)
          rw [hN] at hgo hbg
          have g1 : 48 ≤ n := by omega
          have g2 : n ≤ 57 := by omega
          have hval : (10 * (tg : Int) + ((n : Int) - 48)) = ((10 * tg + (n - 48) : Nat) : Int) := by omega
          have HV := Aside0.mk hval
          clear hval
          have t4 : ((n : Int) == 48 && (pos : Int) == 0) = false := by
            rw [Bool.and_eq_false_iff, beq_eq_false_iff_ne, beq_eq_false_iff_ne]; omega
          by_cases c5 : 99999 < 10 * tg + (n - 48)
          · have HF := Aside0.mk (hA.out.symm.trans (hbg c5))
            have t5 : decide ((99999 : Int) < 10 * (tg : Int) + ((n : Int) - 48)) = true := by rw [decide_eq_true_eq]; omega
            have t6 : (n : Int) = 48 → ¬ (pos : Int) = 0 := by omega
            clear hA hb48 hN hbad c1 c2 c3 c4 hgo hbg c5
            by_cases c6 : n = 48
            · have t7 : ((pos : Int) == 0) = false := by rw [beq_eq_false_iff_ne]; omega
              subst c6
              have t8 : decide ((99999 : Int) < 10 * (tg : Int)) = true := by rw [decide_eq_true_eq] at t5 ⊢; omega
              clear t5 t6
              go_wp2
              go_ret3
              exact NumIs.mk_ (a := 0) (b := 0) (c := 80) HF.out.symm (hBel.out _)
            · have t7 : ((n : Int) == 48) = false := by rw [beq_eq_false_iff_ne]; omega
              clear t6
              go_wp2
              go_ret3
              exact NumIs.mk_ (a := 0) (b := 0) (c := 80) HF.out.symm (hBel.out _)
          · have HA2 := Aside0.mk ((hgo c5).symm.trans hA.out)
            have t5 : decide ((99999 : Int) < 10 * (tg : Int) + ((n : Int) - 48)) = false := by rw [decide_eq_false_iff_not]; omega
            have hb5 : 10 * tg + (n - 48) ≤ 99999 := by omega
            have HB5 := Aside0.mk hb5
            have t6 : (n : Int) = 48 → ¬ (pos : Int) = 0 := by omega
            clear hA hb48 hN hbad c1 c2 c3 c4 hgo hbg c5 hb5
            by_cases c6 : n = 48
            · have t7 : ((pos : Int) == 0) = false := by rw [beq_eq_false_iff_ne]; omega
              subst c6
              have t8 : decide ((99999 : Int) < 10 * (tg : Int)) = false := by rw [decide_eq_false_iff_not] at t5 ⊢; omega
              clear t5 t6
              go_wp2
              go_roundw
              case rel => exact ⟨pos + 1, 10 * tg + (48 - 48), rfl, by have := HV.out; simp only [Value.int.injEq, true_and]; omega, hp, HB5.out, HA2⟩
              case measure => simp; omega
            · have t7 : ((n : Int) == 48) = false := by rw [beq_eq_false_iff_ne]; omega
              clear t6
              go_wp2
              go_roundw
              case rel => exact ⟨pos + 1, 10 * tg + (n - 48), rfl, by have := HV.out; simp only [Value.int.injEq, true_and]; omega, hp, HB5.out, HA2⟩
              case measure => simp; omega
      · have hnx : ∀ ty, (Instr.next (.pointer (some ⟨w.heap.size, 0, none⟩)) true ty).run Tryd.prog (w.iter s pos) = _ := fun ty => run_next_any w s pos ty hp
        have hh := (decode_high s pos hp (by omega)).1
        have hle := decode_le s pos
        rw [hcons] at hA
        have HF := Aside0.mk (hA.out.symm.trans (numL_bad (s[pos]'hp) _ pos tg (by omega) (.inl (by unfold isDig; omega))))
        clear hA hcons ha
        generalize (Utf8.decode s pos).1 = r at *
        generalize (Utf8.decode s pos).2 = wd at *
        have t1 : ((r : Int) == 61) = false := by rw [beq_eq_false_iff_ne]; omega
        have t2 : decide ((r : Int) < 48) = false := by rw [decide_eq_false_iff_not]; omega
        have t3 : decide ((57 : Int) < r) = true := by rw [decide_eq_true_eq]; omega
        go_wp2
        go_ret3
        exact NumIs.mk_ (a := 0) (b := 0) (c := 80) HF.out.symm (hBel.out _)
    · have hnx : ∀ ty, (Instr.next (.pointer (some ⟨w.heap.size, 0, none⟩)) true ty).run Tryd.prog (w.iter s pos) = _ := fun ty => run_next_end w s pos ty hp
      have HF := Aside0.mk ((show numL (s.data.toList.drop pos) pos tg = (0, 0, 82) by rw [List.drop_eq_nil_of_le (by rw [size_list]; omega)]; rfl).symm.trans hA.out)
      clear hA
      go_wp2
      go_ret3
      exact NumIs.mk_ (a := 0) (b := 0) (c := 82) HF.out (hBel.out _)
theorem tag_number.calls (a0 : ByteArray) (r1 r2 r3 : Int) (w : World) (h : tag_number.f a0 = some (r1, r2, r3)) :
    Calls Tryd.prog 140 #[.string a0] w fun e w' => e = .returned (.tuple #[.int .i64 r1, .int .i64 r2, .int .i64 r3]) ∧ Below w.heap.size w w' := by
  unfold tag_number.f at h
  by_cases c : a0.size ≤ big
  · rw [if_pos c] at h
    simp only [Option.some.injEq, Prod.mk.injEq] at h
    obtain ⟨rfl, rfl, rfl⟩ := h
    exact tag_number_walk a0 w c
  · rw [if_neg c] at h; cases h
end Go.Proofs.YtgfigkfcmkdjdaaDoor.B
end
section
namespace Go.Proofs.YtgfigkfcmkdjdaaDoor.B
open Go.RowKit Go.Proofs.YtgfigkfcmkdjdaaDoorW.PrintWords Go.Proofs.YtgfigkfcmkdjdaaDoorW.PrintLast Go.Proofs.YtgfigkfcmkdjdaaDoorW.PrintMore
attribute [local go_sem] max2_int min2_int max_two min_two max_three min_three max_four min_four   -- for this text's walks alone
set_option linter.unusedVariables false
set_option linter.unusedSimpArgs false
theorem tag_may_same (r : Nat) (hr : r ≤ 2147483647) (w : World) :
    Calls Tryd.prog 137 #[.int .i32 (r : Int)] w fun e w' => e = .returned (.bool (mayB r)) ∧ w = w' := by
  by_cases c1 : r < 32
  · have hv : mayB r = false := by unfold mayB; simp; omega
    have t1 : decide ((32 : Int) ≤ (r : Int)) = false := by rw [decide_eq_false_iff_not]; omega
    rw [hv]
    clear hv c1
    go_enter Tryd.func137, Tryd.ntmps137
    go_wp2
    go_ret
    exact ⟨rfl, rfl⟩
  have t1 : decide ((32 : Int) ≤ (r : Int)) = true := by rw [decide_eq_true_eq]; omega
  by_cases c2 : r = 127
  · subst c2
    go_enter Tryd.func137, Tryd.ntmps137
    go_wp2
    go_ret
    exact ⟨rfl, rfl⟩
  by_cases c3 : r = 65533
  · subst c3
    go_enter Tryd.func137, Tryd.ntmps137
    go_wp2
    go_ret
    exact ⟨rfl, rfl⟩
  have hv : mayB r = true := by rw [mayB_eq]; omega
  have t2 : ((r : Int) == 127) = false := by rw [beq_eq_false_iff_ne]; omega
  have t3 : ((r : Int) != 127) = true := by rw [bne_iff_ne]; omega
  have t4 : ((r : Int) == 65533) = false := by rw [beq_eq_false_iff_ne]; omega
  have t5 : ((r : Int) != 65533) = true := by rw [bne_iff_ne]; omega
  rw [hv]
  clear hv c1 c2 c3
  go_enter Tryd.func137, Tryd.ntmps137
  go_wp2
  go_ret
  exact ⟨rfl, rfl⟩
end Go.Proofs.YtgfigkfcmkdjdaaDoor.B
end
section
namespace Go.Proofs.YtgfigkfcmkdjdaaDoor.B
open Go.RowKit Go.Proofs.YtgfigkfcmkdjdaaDoorW.PrintWords Go.Proofs.YtgfigkfcmkdjdaaDoorW.PrintLast Go.Proofs.YtgfigkfcmkdjdaaDoorW.PrintMore
attribute [local go_sem] max2_int min2_int max_two min_two max_three min_three max_four min_four   -- for this text's walks alone
set_option linter.unusedVariables false
set_option linter.unusedSimpArgs false
def tag_text.f (a0 : ByteArray) : Option (ByteArray × Int) := if a0.size ≤ big then some (if (textL a0.data.toList 0).2 = 0 then a0.extract 0 (textL a0.data.toList 0).1 else ⟨#[]⟩, ((textL a0.data.toList 0).2 : Int)) else none
def TextIs (s : ByteArray) (w : World) (e : Ending) (w' : World) : Prop := e = .returned (.tuple #[.string (if (textL s.data.toList 0).2 = 0 then s.extract 0 (textL s.data.toList 0).1 else ⟨#[]⟩), .int .i64 ((textL s.data.toList 0).2 : Int)]) ∧ Below w.heap.size w w'
theorem TextIs.ok {s : ByteArray} {w w' : World} {p : Nat} {t : ByteArray} (h : (p, 0) = textL s.data.toList 0) (ht : t = s.extract 0 p) (hw : Below w.heap.size w w') : TextIs s w (.returned (.tuple #[.string t, .int .i64 0])) w' := by
  subst ht; unfold TextIs; rw [← h]; exact ⟨rfl, hw⟩
theorem TextIs.no {s : ByteArray} {w w' : World} {p e : Nat} (h : (p, e) = textL s.data.toList 0) (he : e ≠ 0) (hw : Below w.heap.size w w') : TextIs s w (.returned (.tuple #[.string ⟨#[]⟩, .int .i64 (e : Int)])) w' := by
  unfold TextIs; rw [← h]; simp only; rw [if_neg he]; exact ⟨rfl, hw⟩
set_option maxHeartbeats 1000000 in
theorem tag_text_walk (s : ByteArray) (w : World) (hs : s.size ≤ big) :
    Calls Tryd.prog 141 #[.string s] w (TextIs s w) := by
  unfold big at hs
  have HB : Aside0 (∀ p, Below w.heap.size w (w.iter s p)) := ⟨fun p => (Below.refl _ _).alloc (Nat.le_refl _) _⟩
  go_enter Tryd.func141, Tryd.ntmps141
  go_wp2
  go_step3
  go_wp2
  go_step3
  go_wp2
  go_loopw [4, 5] (fun e4 v5 w' => ∃ pos at_ : Nat, w' = w.iter s pos ∧ e4 = .int .i64 82 ∧ v5 = .int .i64 (at_ : Int) ∧ pos ≤ s.size ∧ Aside0 (textL (s.data.toList.drop pos) pos = textL s.data.toList 0)) (fun _ _ w' => s.size - w'.iterPos w.heap.size)
  case atStart => exact ⟨0, 0, rfl, rfl, rfl, Nat.zero_le _, ⟨rfl⟩⟩
  case round =>
    obtain ⟨pos, at_, rfl, rfl, rfl, hpos, hA⟩ := hrel
    by_cases hp : pos < s.size
    · have hnx : ∀ ty, (Instr.next (.pointer (some ⟨w.heap.size, 0, none⟩)) true ty).run Tryd.prog (w.iter s pos) = _ := fun ty => run_next_any w s pos ty hp
      have hle := decode_le s pos
      have hne := drop_ne_nil s pos hp
      have hst := hA.out
      have hwd := dec_width (s.data.toList.drop pos)
      have hwl := dec_width_le _ hne
      have hw4 := dec_width4 (s.data.toList.drop pos)
      have hen := dec_encode_size (s.data.toList.drop pos) hne
      rw [textL_cons _ hne, dec_drop, List.drop_drop] at hst
      rw [dec_drop] at hwd hwl hw4 hen
      rw [List.length_drop, size_list] at hwl
      clear hA
      generalize (Utf8.decode s pos).1 = r at *
      generalize (Utf8.decode s pos).2 = wd at *
      by_cases c1 : r = 1 ∧ 0 < pos
      · rw [if_pos c1] at hst
        have HS := Aside0.mk hst
        obtain ⟨rfl, c1⟩ := c1
        clear hst hen hle
        go_wp2
        go_ret2
        exact TextIs.ok HS.out (by simp) (HB.out _)
      · rw [if_neg c1] at hst
        have HM : Aside0 (∀ w, Calls Tryd.prog 137 #[.int .i32 (r : Int)] w fun e w' => e = .returned (.bool (mayB r)) ∧ w = w') := ⟨fun w => tag_may_same r hle w⟩
        cases hm : mayB r with
        | false =>
          rw [hm] at hst HM
          rw [if_neg (by simp)] at hst
          have HS := Aside0.mk hst
          clear hst hm hen hle
          by_cases c2 : r = 1
          · obtain rfl : pos = 0 := by omega
            subst c2
            clear c1
            go_wp2_with (go_at_call 137; refine (HM.out _).mono ?_; rintro e w1 ⟨rfl, rfl⟩)
            go_ret2
            exact TextIs.no HS.out (by decide) (HB.out _)
          · have t1 : ((r : Int) == 1) = false := by rw [beq_eq_false_iff_ne]; omega
            clear c1 c2
            go_wp2_with (go_at_call 137; refine (HM.out _).mono ?_; rintro e w1 ⟨rfl, rfl⟩)
            go_ret2
            exact TextIs.no HS.out (by decide) (HB.out _)
        | true =>
          rw [hm] at hst HM
          have hm2 := (mayB_eq r).1 hm
          have hsz := hen (by omega)
          have t1 : ((r : Int) == 1) = false := by rw [beq_eq_false_iff_ne]; omega
          clear hm hen c1 hle
          by_cases c3 : pos + wd ≤ 512
          · rw [if_pos ⟨rfl, c3⟩] at hst
            have HS := Aside0.mk hst
            have t2 : decide ((512 : Int) < (pos : Int) + (wd : Int)) = false := by rw [decide_eq_false_iff_not]; omega
            clear hst
            go_wp2_with (go_at_call 137; refine (HM.out _).mono ?_; rintro e w1 ⟨rfl, rfl⟩)
            go_roundw
            case rel => exact ⟨pos + wd, pos, rfl, rfl, rfl, by omega, HS⟩
            case measure => simp; omega
          · rw [if_neg (by simp [c3])] at hst
            have HS := Aside0.mk hst
            have t2 : decide ((512 : Int) < (pos : Int) + (wd : Int)) = true := by rw [decide_eq_true_eq]; omega
            clear hst
            go_wp2_with (go_at_call 137; refine (HM.out _).mono ?_; rintro e w1 ⟨rfl, rfl⟩)
            go_ret2
            exact TextIs.no HS.out (by decide) (HB.out _)
    · have hnx : ∀ ty, (Instr.next (.pointer (some ⟨w.heap.size, 0, none⟩)) true ty).run Tryd.prog (w.iter s pos) = _ := fun ty => run_next_end w s pos ty hp
      have HS := Aside0.mk (show (0, 82) = textL s.data.toList 0 by rw [← hA.out, drop_nil_of s pos hp, textL_nil])
      clear hA
      go_wp2
      go_ret2
      exact TextIs.no HS.out (by decide) (HB.out _)
theorem tag_text.calls (a0 : ByteArray) (r1 : ByteArray) (r2 : Int) (w : World) (h : tag_text.f a0 = some (r1, r2)) :
    Calls Tryd.prog 141 #[.string a0] w fun e w' => e = .returned (.tuple #[.string r1, .int .i64 r2]) ∧ Below w.heap.size w w' := by
  unfold tag_text.f at h
  by_cases c : a0.size ≤ big
  · rw [if_pos c] at h
    simp only [Option.some.injEq, Prod.mk.injEq] at h
    obtain ⟨rfl, rfl⟩ := h
    exact tag_text_walk a0 w c
  · rw [if_neg c] at h; cases h
end Go.Proofs.YtgfigkfcmkdjdaaDoor.B
end
