/- The functions that the law reaches, as plain Lean functions, and their contracts: texts merged. -/
import Derived.Test.YtgfigkfcmkdjdaaDoorzTellDecodes2
import Derived.Test.YtgfigkfcmkdjdaaDoorzTellDecodes0
import Derived.Test.YtgfigkfcmkdjdaaDoorzTellDecodes1
import Derived.Test.YtgfigkfcmkdjdaaDoorzTellDecodes3
import Derived.Test.YtgfigkfcmkdjdaaDoorzTellDecodes4
import Derived.Test.YtgfigkfcmkdjdaaDoorzTellDecodes5
import Derived.Test.YtgfigkfcmkdjdaaDoorzTellDecodes6
import Derived.Test.YtgfigkfcmkdjdaaDoorzTellDecodes7
import Derived.Test.YtgfigkfcmkdjdaaDoorzTellDecodes8
import Derived.Test.YtgfigkfcmkdjdaaDoorzTellDecodes9
import Derived.Test.YtgfigkfcmkdjdaaDoorzTellDecodes10
import Derived.Test.YtgfigkfcmkdjdaaDoorzTellDecodes11
import Derived.Test.YtgfigkfcmkdjdaaDoorzTellDecodes12
import Derived.Test.YtgfigkfcmkdjdaaDoorzTellDecodes13
import Derived.Test.YtgfigkfcmkdjdaaDoorzTellDecodes14
import Derived.Test.YtgfigkfcmkdjdaaDoorzTellDecodes15
import Derived.Test.YtgfigkfcmkdjdaaDoorzTellDecodes16
import Derived.Test.YtgfigkfcmkdjdaaDoorzTellDecodes17
section
namespace Go.Proofs.YtgfigkfcmkdjdaaDoor.B
open Go.RowKit Go.Proofs.YtgfigkfcmkdjdaaDoorW.PrintWords Go.Proofs.YtgfigkfcmkdjdaaDoorW.PrintLast Go.Proofs.YtgfigkfcmkdjdaaDoorW.PrintMore
attribute [local go_sem] max2_int min2_int max_two min_two max_three min_three max_four min_four   -- for this text's walks alone
set_option linter.unusedVariables false
set_option linter.unusedSimpArgs false
instance : DecidableEq TellV := fun a b => by
  cases a; cases b
  simp only [TellV.mk.injEq]
  exact inferInstance
def getS (r : TellV) (x : Int) : ByteArray := if x = 0 then r.f1 else r.f2
def getN (r : TellV) (x : Int) : Int := if x = 2 then r.f3 else if x = 3 then r.f4 else if x = 4 then r.f5 else if x = 5 then r.f6 else if x = 6 then r.f7 else if x = 7 then r.f8 else r.f9
def clearF (r : TellV) (x : Int) : TellV :=
  if x = 0 then { r with f1 := ⟨#[]⟩ } else if x = 1 then { r with f2 := ⟨#[]⟩ } else if x = 2 then { r with f3 := 0 } else if x = 3 then { r with f4 := 0 } else if x = 4 then { r with f5 := 0 }
  else if x = 5 then { r with f6 := 0 } else if x = 6 then { r with f7 := 0 } else if x = 7 then { r with f8 := 0 } else { r with f9 := 0 }
def mostOf (x : Int) : Int := if x = 2 then 9 else if x = 3 then 1099511627776 else if x = 4 then 1099511627776 else if x = 5 then 1099511627776 else if x = 6 then 1099511627776 else if x = 7 then 99999 else 999
def okF (x : Int) (r : TellV) : Bool := if x = 0 ∨ x = 1 then nameL (getS r x).data.toList 0 else decide (0 ≤ getN r x ∧ getN r x ≤ mostOf x)
def rightR : List Int → TellV → Bool
  | [], r => decide (r = zTell)
  | x :: t, r => okF x r && rightR t (clearF r x)
theorem rightR_cons (x : Int) (t : List Int) (r : TellV) : rightR (x :: t) r = (okF x r && rightR t (clearF r x)) := rfl
def rightT (a : TellV) : Bool := if 1 ≤ a.f0 ∧ a.f0 ≤ 4 then rightR (slotsN a.f0.toNat) { a with f0 := 0 } else false
theorem cell_str (r : TellV) (x : Int) (h : x = 0 ∨ x = 1) : (tellCells r)[offT x]? = some (.string (getS r x)) := by
  rcases h with rfl | rfl <;> rfl
theorem cell_num (r : TellV) (x : Int) (h : 2 ≤ x ∧ x ≤ 10) : (tellCells r)[offT x]? = some (.int .i64 (getN r x)) := by
  rcases (show x = 2 ∨ x = 3 ∨ x = 4 ∨ x = 5 ∨ x = 6 ∨ x = 7 ∨ x = 8 ∨ x = 9 ∨ x = 10 by omega) with rfl | rfl | rfl | rfl | rfl | rfl | rfl | rfl | rfl <;> rfl
theorem clear_str (r : TellV) (x : Int) (h : x = 0 ∨ x = 1) : (tellCells r).setIfInBounds (offT x) (.string ⟨#[]⟩) = tellCells (clearF r x) := by
  rcases h with rfl | rfl <;> rfl
theorem clear_num (r : TellV) (x : Int) (h : 2 ≤ x ∧ x ≤ 10) : (tellCells r).setIfInBounds (offT x) (.int .i64 0) = tellCells (clearF r x) := by
  rcases (show x = 2 ∨ x = 3 ∨ x = 4 ∨ x = 5 ∨ x = 6 ∨ x = 7 ∨ x = 8 ∨ x = 9 ∨ x = 10 by omega) with rfl | rfl | rfl | rfl | rfl | rfl | rfl | rfl | rfl <;> rfl
theorem place_most (x : Int) (h : 2 ≤ x ∧ x ≤ 10) : ∃ t, tell_placeOf.f x = some (t, mostOf x) := by
  rcases (show x = 2 ∨ x = 3 ∨ x = 4 ∨ x = 5 ∨ x = 6 ∨ x = 7 ∨ x = 8 ∨ x = 9 ∨ x = 10 by omega) with rfl | rfl | rfl | rfl | rfl | rfl | rfl | rfl | rfl <;> exact ⟨_, rfl⟩
theorem word_none (n : Int) (h : ¬ (1 ≤ n ∧ n ≤ 4)) : tell_word.f n = some ⟨#[]⟩ := by
  unfold tell_word.f
  rw [if_neg (by omega), if_neg (by omega), if_neg (by omega), if_neg (by omega)]
theorem word_some (k : Nat) (h : 1 ≤ k ∧ k ≤ 4) : ∃ b, tell_word.f (k : Int) = some ⟨#[b]⟩ := by
  rcases (show k = 1 ∨ k = 2 ∨ k = 3 ∨ k = 4 by omega) with rfl | rfl | rfl | rfl <;> exact ⟨_, rfl⟩
def RtIs (b : Bool) (w : World) (e : Ending) (w' : World) : Prop := e = .returned (.bool b) ∧ Below w.heap.size w w'
theorem RtIs.mk_ {a b : Bool} {w w' : World} (h : a = b) (hw : Below w.heap.size w w') : RtIs b w (.returned (.bool a)) w' := by subst h; exact ⟨rfl, hw⟩
theorem field_place (t m : Int) (w : World) : (Instr.field 84 (.agg #[.int .i64 t, .int .i64 m]) 1).run Tryd.prog w = .ok (.int .i64 m) w := by kernel_rfl
theorem tell_zero_of (r : TellV) (h0 : r.f0 = 0) (h1 : r.f1.toList = []) (h2 : r.f2.toList = []) (h3 : r.f3 = 0) (h4 : r.f4 = 0) (h5 : r.f5 = 0) (h6 : r.f6 = 0) (h7 : r.f7 = 0) (h8 : r.f8 = 0) (h9 : r.f9 = 0) : r = zTell := by
  have e : ∀ s : ByteArray, s.toList = [] → s = ⟨#[]⟩ := fun s h => by rw [ByteArray.toList_eq] at h; exact ba_ext h
  obtain ⟨f0, f1, f2, f3, f4, f5, f6, f7, f8, f9⟩ := r
  simp only at h0 h1 h2 h3 h4 h5 h6 h7 h8 h9
  rw [h0, e f1 h1, e f2 h2, h3, h4, h5, h6, h7, h8, h9]
  rfl
set_option maxRecDepth 100000 in
set_option maxHeartbeats 8000000 in
theorem tell_Right_walk (a : TellV) (w : World) (h1s : a.f1.size ≤ 140737488351232) (h2s : a.f2.size ≤ 140737488351232) :
    Calls Tryd.prog 18 #[.agg #[.int .i64 a.f0, .string a.f1, .string a.f2, .int .i64 a.f3, .int .i64 a.f4, .int .i64 a.f5, .int .i64 a.f6, .int .i64 a.f7, .int .i64 a.f8, .int .i64 a.f9]] w (RtIs (rightT a) w) := by
  have HB0 : Aside0 (Below w.heap.size w (w.alloc (.cells #[.int .i64 a.f0, .string a.f1, .string a.f2, .int .i64 a.f3, .int .i64 a.f4, .int .i64 a.f5, .int .i64 a.f6, .int .i64 a.f7, .int .i64 a.f8, .int .i64 a.f9] 23))) := ⟨(Below.refl _ _).alloc (Nat.le_refl _) _⟩
  have BK0 := Aside0.mk (blk_new w (.cells #[.int .i64 a.f0, .string a.f1, .string a.f2, .int .i64 a.f3, .int .i64 a.f4, .int .i64 a.f5, .int .i64 a.f6, .int .i64 a.f7, .int .i64 a.f8, .int .i64 a.f9] 23))
  by_cases hk : 1 ≤ a.f0 ∧ a.f0 ≤ 4
  · obtain ⟨kd, hkd⟩ := Int.eq_ofNat_of_zero_le (show 0 ≤ a.f0 by omega)
    have hk1 : 1 ≤ kd ∧ kd ≤ 4 := by omega
    obtain ⟨wb, hwb⟩ := word_some kd hk1
    have hsl := tell_slots_k kd hk1.1 hk1.2
    have HR0 : Aside0 (rightT a = rightR (slotsN kd) { a with f0 := 0 }) := ⟨by unfold rightT; rw [if_pos hk, hkd, Int.toNat_natCast]⟩
    rw [← hkd] at hwb hsl
    have HW : Aside0 (∀ W, Calls Tryd.prog 45 #[.int .i64 a.f0] W fun e w' => e = .returned (.string ⟨#[wb]⟩) ∧ Drawn0 W w') := ⟨fun W => tell_word.calls _ _ W hwb⟩
    have HSl : Aside0 (∀ W, Calls Tryd.prog 46 #[.int .i64 a.f0] W fun e w' => ∃ v0_ : Value, e = .returned (v0_) ∧ Kd.R (Kd.int .i64) 82 w' W.heap.size (fun _ => True) v0_ (slotsN kd) ∧ Below W.heap.size W w') := ⟨fun W => tell_slots.calls _ _ W hsl⟩
    have HSm := Aside0.mk (slotsN_mem kd)
    have hsn := slotsN_len kd
    clear hk hkd hk1 hwb hsl
    generalize slotsN kd = sl at *
    generalize rightT a = res at *
    go_enter Tryd.func18, Tryd.ntmps18
    go_wp2_with (first
      | (go_at_call 45; refine (HW.out _).mono ?_; rintro en w1 ⟨rfl, hd⟩; have B1 := Aside0.mk (HB0.out.trans (hd.below.mono HB0.out.size)); have BK1 := Aside0.mk (blk_below BK0.out hd.below); have hc1 := fun i => blk_cell BK1.out i; have hc0 : (w1.alloc (.cells #[.int .i64 0, .string a.f1, .string a.f2, .int .i64 a.f3, .int .i64 a.f4, .int .i64 a.f5, .int .i64 a.f6, .int .i64 a.f7, .int .i64 a.f8, .int .i64 a.f9] 23)).cell? ⟨w.heap.size, 0, none⟩ = some (.int .i64 a.f0) := blk_cell (blk_alloc BK1.out _) 0; have B2 : Aside0 (Below w.heap.size w (w1.alloc (.cells #[.int .i64 0, .string a.f1, .string a.f2, .int .i64 a.f3, .int .i64 a.f4, .int .i64 a.f5, .int .i64 a.f6, .int .i64 a.f7, .int .i64 a.f8, .int .i64 a.f9] 23))) := ⟨B1.out.alloc B1.out.size _⟩; have BK2 : Aside0 ((w1.alloc (.cells #[.int .i64 0, .string a.f1, .string a.f2, .int .i64 a.f3, .int .i64 a.f4, .int .i64 a.f5, .int .i64 a.f6, .int .i64 a.f7, .int .i64 a.f8, .int .i64 a.f9] 23)).heap[w1.heap.size]? = some (.cells (tellCells { a with f0 := 0 }) 23 (0, 0))) := ⟨blk_new _ _⟩; have hs1 : (w1.alloc (.cells #[.int .i64 0, .string a.f1, .string a.f2, .int .i64 a.f3, .int .i64 a.f4, .int .i64 a.f5, .int .i64 a.f6, .int .i64 a.f7, .int .i64 a.f8, .int .i64 a.f9] 23)).heap.size = w1.heap.size + 1 := World.size_alloc _ _; have HS1 := Aside0.mk hs1; have HW1 := Aside0.mk (blk_lt BK1.out); clear hd HB0 BK0 hs1)
      | (go_at_call 46; refine (HSl.out _).mono ?_; rintro en w3 ⟨v0, rfl, hR, hb⟩; have B3 := Aside0.mk (B2.out.trans (hb.mono B2.out.size)); have BK3 := Aside0.mk (blk_below BK2.out hb); have HRb := Aside0.mk (Kd.R_base hR); obtain ⟨As, cs, rfl, hcs, hCs⟩ := Kd.R_reads hR; have HCs := Aside0.mk hCs; clear hR hb hCs B2 BK2 hc1 hc0))
    go_loopw [18] (fun v18 wq => ∃ (i : Nat) (r : TellV), v18 = .int .i64 (i : Int) ∧ i ≤ sl.length ∧ Aside0 (wq.heap[w1.heap.size]? = some (.cells (tellCells r) 23 (0, 0))) ∧ Aside0 (Below w.heap.size w wq) ∧ Aside0 (Turned (fun j => j = w1.heap.size) w3 wq) ∧ Aside0 (rightR (sl.drop i) r = res) ∧ r.f1.size ≤ 140737488351232 ∧ r.f2.size ≤ 140737488351232) (fun v18 _ => sl.length - (intOf v18).toNat)
    case atStart => exact ⟨0, { a with f0 := 0 }, rfl, Nat.zero_le _, BK3, B3, ⟨Turned.refl _ _⟩, ⟨HR0.out.symm⟩, h1s, h2s⟩
    case round =>
      clear B3 BK3
      obtain ⟨i, r, rfl, hi, BK, B, HT, HA, hr1, hr2⟩ := hrel
      by_cases hlt : i < sl.length
      · have k1 : decide ((i : Int) < (sl.length : Int)) = true := by rw [decide_eq_true_eq]; omega
        have k2 : (0 : Int) ≤ (i : Int) ∧ (i : Int) < (sl.length : Int) := by omega
        have hti : ((i : Int)).toNat = i := Int.toNat_natCast i
        obtain ⟨ad, hA, q0⟩ := Kd.at_int HCs.out (i : Int) (by omega) (by omega)
        have hrd : rd sl (i : Int) = sl[i] := by unfold rd; rw [Int.toNat_natCast, List.getD_eq_getElem?_getD, List.getElem?_eq_getElem hlt]; rfl
        rw [hti, hrd] at q0
        have hbase := HRb.out ad.block (by rw [hA]; rfl)
        have hs1 := HS1.out
        have hq := HT.out.cell q0 (fun e => by rw [add_block] at e; omega)
        subst hA
        have hx := HSm.out _ (List.getElem_mem hlt)
        rw [List.drop_eq_getElem_cons hlt, rightR_cons] at HA
        clear q0 hrd hbase hs1
        generalize sl[i] = x at *
        by_cases hxn : x = 0 ∨ x = 1
        · obtain ⟨t, j, hask, hpl, hoff, hj, ht, hname⟩ := askOf_name x hxn
          have HNm := Aside0.mk hname
          have c0 : wr.cell? ⟨w1.heap.size, j, none⟩ = some (.string (getS r x)) := by rw [← hoff]; exact (blk_cell BK.out _).trans (cell_str r x hxn)
          have z0 := blk_frozen BK.out j
          have HC0 : Aside0 ((tellCells r)[j]? = some (.string (getS r x))) := ⟨by rw [← hoff]; exact cell_str r x hxn⟩
          have HCl : Aside0 ((tellCells r).setIfInBounds j (.string ⟨#[]⟩) = tellCells (clearF r x)) := ⟨by rw [← hoff]; exact clear_str r x hxn⟩
          have hok : okF x r = nameL (getS r x).data.toList 0 := by unfold okF; rw [if_pos hxn]
          have hsz : (getS r x).size ≤ 140737488351232 := by unfold getS; split <;> assumption
          have HV : Aside0 (∀ W, Calls Tryd.prog 54 #[.string (getS r x)] W (NameIs (nameL (getS r x).data.toList 0) W)) := ⟨fun W => roster_Valid_walk _ W (by omega)⟩
          have hc1s : (clearF r x).f1.size ≤ 140737488351232 ∧ (clearF r x).f2.size ≤ 140737488351232 := by
            rcases hxn with rfl | rfl
            · exact ⟨show (⟨#[]⟩ : ByteArray).size ≤ 140737488351232 by decide, hr2⟩
            · exact ⟨hr1, show (⟨#[]⟩ : ByteArray).size ≤ 140737488351232 by decide⟩
          rw [hok] at HA
          clear hask hpl hoff hname hok hsz ht hxn
          generalize getS r x = sv at *
          generalize nameL sv.data.toList 0 = bv at *
          cases bv with
          | false =>
            have HF : Aside0 (false = res) := ⟨HA.out⟩
            clear HA
            go_wp2_with (first
              | (go_at_call 48; refine (HNm.out _ _).mono ?_; rintro en w6 ⟨rfl, hh⟩; obtain rfl := hh.symm; clear hh)
              | (go_at_call 54; refine (HV.out _).mono ?_; rintro en w7 ⟨rfl, hb⟩))
            go_ret
            exact RtIs.mk_ HF.out (B.out.trans (hb.mono B.out.size))
          | true =>
            have HA2 : Aside0 (rightR (sl.drop (i + 1)) (clearF r x) = res) := ⟨HA.out⟩
            clear HA
            go_wp2_with (first
              | (go_at_call 48; refine (HNm.out _ _).mono ?_; rintro en w6 ⟨rfl, hh⟩; obtain rfl := hh.symm; clear hh)
              | (go_at_call 54; refine (HV.out _).mono ?_; rintro en w7 ⟨rfl, hb⟩; have BK7 := Aside0.mk (blk_below BK.out hb); have B7 := Aside0.mk (B.out.trans (hb.mono B.out.size)); have HT7 := Aside0.mk (HT.out.trans (Turned.of_below hb)); clear hb; have c7 : w7.cell? ⟨w1.heap.size, j, none⟩ = some (.string sv) := (blk_cell BK7.out j).trans HC0.out; have z7 := blk_frozen BK7.out j))
            refine ⟨⟨i + 1, clearF r x, by rw [show ((i + 1 : Nat) : Int) = (i : Int) + 1 by omega], by omega, ⟨by rw [← HCl.out]; exact blk_set BK7.out j _⟩, ⟨B7.out.setCell (by show w.heap.size ≤ w1.heap.size; have := HW1.out; omega) _⟩, ⟨HT7.out.setCell (p := ⟨w1.heap.size, j, none⟩) rfl _⟩, HA2, hc1s.1, hc1s.2⟩, ?_⟩
            show sl.length - ((i : Int) + 1).toNat < sl.length - ((i : Int)).toNat
            omega
        · have hx2 : 2 ≤ x ∧ x ≤ 10 := by omega
          obtain ⟨t, hpl⟩ := place_most x hx2
          have HC0 : Aside0 ((tellCells r)[offT x]? = some (.int .i64 (getN r x))) := ⟨cell_num r x hx2⟩
          have HCl : Aside0 ((tellCells r).setIfInBounds (offT x) (.int .i64 0) = tellCells (clearF r x)) := ⟨clear_num r x hx2⟩
          have hok : okF x r = decide (0 ≤ getN r x ∧ getN r x ≤ mostOf x) := by unfold okF; rw [if_neg hxn]
          have HPl : Aside0 (∀ W, Calls Tryd.prog 47 #[.int .i64 x] W fun e w' => e = .returned (.agg #[.int .i64 t, .int .i64 (mostOf x)]) ∧ Below W.heap.size W w') := ⟨fun W => tell_placeOf.calls x t _ W hpl⟩
          have HNm := Aside0.mk (tell_name_n w1.heap.size x hx2.1)
          have HNu := Aside0.mk (tell_number_x w1.heap.size x hx2)
          have hp0 : wr.cell? ⟨w1.heap.size, offT x, none⟩ = some (.int .i64 (getN r x)) := (blk_cell BK.out _).trans HC0.out
          have hc1s : (clearF r x).f1.size ≤ 140737488351232 ∧ (clearF r x).f2.size ≤ 140737488351232 := by
            unfold clearF
            rw [if_neg (by omega), if_neg (by omega)]
            repeat' split
            all_goals exact ⟨hr1, hr2⟩
          rw [hok] at HA
          have hbl : w1.heap.size < wr.heap.size := blk_lt BK.out
          clear hpl hok hxn
          generalize getN r x = n at *
          generalize mostOf x = m at *
          have hfl := field_place t m
          by_cases hn : n < 0
          · have HF : Aside0 (false = res) := ⟨by have h := HA.out; rw [decide_eq_false (by omega)] at h; exact h⟩
            have n1 : decide (n < 0) = true := by rw [decide_eq_true_eq]; exact hn
            clear HA hn
            go_wp2_with (first
              | (go_at_call 48; refine (HNm.out _).mono ?_; rintro en w6 ⟨rfl, hh⟩; obtain rfl := hh.symm; clear hh)
              | (go_at_call 50; refine (HNu.out _).mono ?_; rintro en w6 ⟨rfl, hh⟩; obtain rfl := hh.symm; clear hh))
            go_quiet (fail)
            go_wp2
            go_ret
            exact RtIs.mk_ HF.out (pw_below_drewN B.out _)
          · have n1 : decide (n < 0) = false := by rw [decide_eq_false_iff_not]; exact hn
            by_cases hm : m < n
            · have HF : Aside0 (false = res) := ⟨by have h := HA.out; rw [decide_eq_false (by omega)] at h; exact h⟩
              have n2 : decide (m < n) = true := by rw [decide_eq_true_eq]; exact hm
              clear HA hn hm
              go_wp2_with (first
                | (go_at_call 48; refine (HNm.out _).mono ?_; rintro en w6 ⟨rfl, hh⟩; obtain rfl := hh.symm; clear hh)
                | (go_at_call 50; refine (HNu.out _).mono ?_; rintro en w6 ⟨rfl, hh⟩; obtain rfl := hh.symm; clear hh))
              refine start_ (n := 13) (S := fun w' => w'.cell? ⟨w1.heap.size, offT x, none⟩ = some (.int .i64 n)) (ds := []) #[false, false, false, false, false, false, false, false, false, false, false, false, false] (by kernel_rfl) rfl rfl (hp0) (fun hHeld => ?_)
              refine pure_ (i := 0) (N := some 35) (v := ?_) (a' := ?_) #[true, false, false, false, false, false, false, false, false, false, false, false, false] rfl rfl (by kernel_rfl) (fun _ _ _ h => h) (Or.inl ⟨by rfl, ?_⟩) ?_ ?_
              rotate_left
              · intro w'
                go_simp
                with_reducible rfl
              rotate_left
              · simp only [Act.put, List.setIfInBounds_toArray, List.set_cons_zero, List.set_cons_succ, i64_w, i32_w]
                rfl
              refine pure_ (i := 1) (N := some 36) (v := ?_) (a' := ?_) #[true, true, false, false, false, false, false, false, false, false, false, false, false] rfl rfl (by kernel_rfl) (fun _ _ _ h => h) (Or.inl ⟨by rfl, ?_⟩) ?_ ?_
              rotate_left
              · intro w'
                go_simp
                with_reducible rfl
              rotate_left
              · simp only [Act.put, List.setIfInBounds_toArray, List.set_cons_zero, List.set_cons_succ, i64_w, i32_w]
                rfl
              refine take_ (i := 2) (N := some 37) (v := ?_) (a' := ?_) #[true, true, true, false, false, false, false, false, false, false, false, false, false] rfl rfl (by kernel_rfl) (fun _ _ _ h => h) (Or.inl ⟨by rfl, ?_⟩) hHeld ?_ ?_
              rotate_left
              · intro w' s0
                go_simp
                with_reducible rfl
              rotate_left
              · simp only [Act.put, List.setIfInBounds_toArray, List.set_cons_zero, List.set_cons_succ, i64_w, i32_w]
                rfl
              refine pure_ (i := 3) (N := some 38) (v := ?_) (a' := ?_) #[true, true, true, true, false, false, false, false, false, false, false, false, false] rfl rfl (by kernel_rfl) (fun _ _ _ h => h) (Or.inl ⟨by rfl, ?_⟩) ?_ ?_
              rotate_left
              · intro w'
                go_simp
                with_reducible rfl
              rotate_left
              · simp only [Act.put, List.setIfInBounds_toArray, List.set_cons_zero, List.set_cons_succ, i64_w, i32_w]
                rfl
              refine pure_ (i := 4) (N := some 39) (v := ?_) (a' := ?_) #[true, true, true, true, true, false, false, false, false, false, false, false, false] rfl rfl (by kernel_rfl) (fun _ _ _ h => h) (Or.inl ⟨by rfl, ?_⟩) ?_ ?_
              rotate_left
              · intro w'
                go_simp
                with_reducible rfl
              rotate_left
              · simp only [Act.put, List.setIfInBounds_toArray, List.set_cons_zero, List.set_cons_succ, i64_w, i32_w]
                rfl
              refine pure_ (i := 5) (N := some 40) (v := ?_) (a' := ?_) #[true, true, true, true, true, true, false, false, false, false, false, false, false] rfl rfl (by kernel_rfl) (fun _ _ _ h => h) (Or.inl ⟨by rfl, ?_⟩) ?_ ?_
              rotate_left
              · intro w'
                go_simp
                with_reducible rfl
              rotate_left
              · simp only [Act.put, List.setIfInBounds_toArray, List.set_cons_zero, List.set_cons_succ, i64_w, i32_w]
                rfl
              refine pure_ (i := 6) (N := some 41) (v := ?_) (a' := ?_) #[true, true, true, true, true, true, true, false, false, false, false, false, false] rfl rfl (by kernel_rfl) (fun _ _ _ h => h) (Or.inl ⟨by rfl, ?_⟩) ?_ ?_
              rotate_left
              · intro w'
                go_simp
                with_reducible rfl
              rotate_left
              · simp only [Act.put, List.setIfInBounds_toArray, List.set_cons_zero, List.set_cons_succ, i64_w, i32_w]
                rfl
              refine pure_ (i := 8) (N := some 43) (v := ?_) (a' := ?_) #[true, true, true, true, true, true, true, false, true, false, false, false, false] rfl rfl (by kernel_rfl) (fun _ _ _ h => h) (Or.inl ⟨by rfl, ?_⟩) ?_ ?_
              rotate_left
              · intro w'
                go_simp
                with_reducible rfl
              rotate_left
              · simp only [Act.put, List.setIfInBounds_toArray, List.set_cons_zero, List.set_cons_succ, i64_w, i32_w]
                rfl
              refine take_ (i := 7) (N := some 42) (v := ?_) (a' := ?_) #[true, true, true, true, true, true, true, true, true, false, false, false, false] rfl rfl (by kernel_rfl) (fun _ _ _ h => h) (Or.inl ⟨by rfl, ?_⟩) hHeld ?_ ?_
              rotate_left
              · intro w' s0
                go_simp
                with_reducible rfl
              rotate_left
              · simp only [Act.put, List.setIfInBounds_toArray, List.set_cons_zero, List.set_cons_succ, i64_w, i32_w]
                rfl
              refine one_ (i := 9) (N := some 44) #[true, true, true, true, true, true, true, true, true, true, false, false, false] rfl rfl (by kernel_rfl) (by decide) (fun K hK => ?_)
              refine goes_ Tryd.func47 (by kernel_rfl) rfl #[.int .i64 x] (by rfl) rfl rfl (by simp only [List.map_toArray, List.map_cons, List.map_nil]; rfl) ?_
              with_reducible refine (HPl.out _).mono ?_
              rintro e w6 ⟨rfl, hb6⟩
              refine ⟨_, rfl, ?_⟩
              have B6 := Aside0.mk (B.out.trans ((show Below wr.heap.size wr w6 from ⟨hb6.os, hb6.tape, hb6.output, hb6.size, hb6.block⟩).mono B.out.size))
              have BK6 := Aside0.mk (blk_below (w := wr.drew) BK.out hb6)
              have HT6 := Aside0.mk (HT.out.trans (Turned.of_below (w := wr) ⟨hb6.os, hb6.tape, hb6.output, hb6.size, hb6.block⟩))
              have c7 : w6.cell? ⟨w1.heap.size, offT x, none⟩ = some (.int .i64 n) := (blk_cell BK6.out (offT x)).trans HC0.out
              have z7 := blk_frozen BK6.out (offT x)
              refine hK.out _ _ ((hb6.cell (p := ⟨w1.heap.size, offT x, none⟩) hbl).trans hHeld) (fun hHeld => ?_)
              clear hK K
              refine norm_ (a' := ?_) ?_ ?_
              rotate_left
              · show Act.put _ (some 44) _ = _
                simp only [Act.put, List.setIfInBounds_toArray, List.set_cons_zero, List.set_cons_succ, i64_w, i32_w]
                rfl
              refine pure_ (i := 10) (N := some 45) (v := ?_) (a' := ?_) #[true, true, true, true, true, true, true, true, true, true, true, false, false] rfl rfl (by kernel_rfl) (fun _ _ _ h => h) (Or.inl ⟨by rfl, ?_⟩) ?_ ?_
              rotate_left
              · intro w'
                go_simp
                with_reducible rfl
              rotate_left
              · simp only [Act.put, List.setIfInBounds_toArray, List.set_cons_zero, List.set_cons_succ, i64_w, i32_w]
                rfl
              refine pure_ (i := 11) (N := some 46) (v := ?_) (a' := ?_) #[true, true, true, true, true, true, true, true, true, true, true, true, false] rfl rfl (by kernel_rfl) (fun _ _ _ h => h) (Or.inl ⟨by rfl, ?_⟩) ?_ ?_
              rotate_left
              · intro w'
                go_simp
                with_reducible rfl
              rotate_left
              · simp only [Act.put, List.setIfInBounds_toArray, List.set_cons_zero, List.set_cons_succ, i64_w, i32_w]
                rfl
              refine pure_ (i := 12) (N := some 47) (v := ?_) (a' := ?_) #[true, true, true, true, true, true, true, true, true, true, true, true, true] rfl rfl (by kernel_rfl) (fun _ _ _ h => h) (Or.inl ⟨by rfl, ?_⟩) ?_ ?_
              rotate_left
              · intro w'
                go_simp
                with_reducible rfl
              rotate_left
              · simp only [Act.put, List.setIfInBounds_toArray, List.set_cons_zero, List.set_cons_succ, i64_w, i32_w]
                rfl
              refine done_ (by kernel_rfl) ?_

              go_wp2
              go_ret
              exact RtIs.mk_ HF.out B6.out
            · have HA2 : Aside0 (rightR (sl.drop (i + 1)) (clearF r x) = res) := ⟨by have h := HA.out; rw [decide_eq_true (by omega), Bool.true_and] at h; exact h⟩
              have n2 : decide (m < n) = false := by rw [decide_eq_false_iff_not]; exact hm
              clear HA hn hm
              go_wp2_with (first
                | (go_at_call 48; refine (HNm.out _).mono ?_; rintro en w6 ⟨rfl, hh⟩; obtain rfl := hh.symm; clear hh)
                | (go_at_call 50; refine (HNu.out _).mono ?_; rintro en w6 ⟨rfl, hh⟩; obtain rfl := hh.symm; clear hh))
              refine start_ (n := 13) (S := fun w' => w'.cell? ⟨w1.heap.size, offT x, none⟩ = some (.int .i64 n)) (ds := []) #[false, false, false, false, false, false, false, false, false, false, false, false, false] (by kernel_rfl) rfl rfl (hp0) (fun hHeld => ?_)
              refine pure_ (i := 0) (N := some 35) (v := ?_) (a' := ?_) #[true, false, false, false, false, false, false, false, false, false, false, false, false] rfl rfl (by kernel_rfl) (fun _ _ _ h => h) (Or.inl ⟨by rfl, ?_⟩) ?_ ?_
              rotate_left
              · intro w'
                go_simp
                with_reducible rfl
              rotate_left
              · simp only [Act.put, List.setIfInBounds_toArray, List.set_cons_zero, List.set_cons_succ, i64_w, i32_w]
                rfl
              refine pure_ (i := 1) (N := some 36) (v := ?_) (a' := ?_) #[true, true, false, false, false, false, false, false, false, false, false, false, false] rfl rfl (by kernel_rfl) (fun _ _ _ h => h) (Or.inl ⟨by rfl, ?_⟩) ?_ ?_
              rotate_left
              · intro w'
                go_simp
                with_reducible rfl
              rotate_left
              · simp only [Act.put, List.setIfInBounds_toArray, List.set_cons_zero, List.set_cons_succ, i64_w, i32_w]
                rfl
              refine take_ (i := 2) (N := some 37) (v := ?_) (a' := ?_) #[true, true, true, false, false, false, false, false, false, false, false, false, false] rfl rfl (by kernel_rfl) (fun _ _ _ h => h) (Or.inl ⟨by rfl, ?_⟩) hHeld ?_ ?_
              rotate_left
              · intro w' s0
                go_simp
                with_reducible rfl
              rotate_left
              · simp only [Act.put, List.setIfInBounds_toArray, List.set_cons_zero, List.set_cons_succ, i64_w, i32_w]
                rfl
              refine pure_ (i := 3) (N := some 38) (v := ?_) (a' := ?_) #[true, true, true, true, false, false, false, false, false, false, false, false, false] rfl rfl (by kernel_rfl) (fun _ _ _ h => h) (Or.inl ⟨by rfl, ?_⟩) ?_ ?_
              rotate_left
              · intro w'
                go_simp
                with_reducible rfl
              rotate_left
              · simp only [Act.put, List.setIfInBounds_toArray, List.set_cons_zero, List.set_cons_succ, i64_w, i32_w]
                rfl
              refine pure_ (i := 4) (N := some 39) (v := ?_) (a' := ?_) #[true, true, true, true, true, false, false, false, false, false, false, false, false] rfl rfl (by kernel_rfl) (fun _ _ _ h => h) (Or.inl ⟨by rfl, ?_⟩) ?_ ?_
              rotate_left
              · intro w'
                go_simp
                with_reducible rfl
              rotate_left
              · simp only [Act.put, List.setIfInBounds_toArray, List.set_cons_zero, List.set_cons_succ, i64_w, i32_w]
                rfl
              refine pure_ (i := 5) (N := some 40) (v := ?_) (a' := ?_) #[true, true, true, true, true, true, false, false, false, false, false, false, false] rfl rfl (by kernel_rfl) (fun _ _ _ h => h) (Or.inl ⟨by rfl, ?_⟩) ?_ ?_
              rotate_left
              · intro w'
                go_simp
                with_reducible rfl
              rotate_left
              · simp only [Act.put, List.setIfInBounds_toArray, List.set_cons_zero, List.set_cons_succ, i64_w, i32_w]
                rfl
              refine pure_ (i := 6) (N := some 41) (v := ?_) (a' := ?_) #[true, true, true, true, true, true, true, false, false, false, false, false, false] rfl rfl (by kernel_rfl) (fun _ _ _ h => h) (Or.inl ⟨by rfl, ?_⟩) ?_ ?_
              rotate_left
              · intro w'
                go_simp
                with_reducible rfl
              rotate_left
              · simp only [Act.put, List.setIfInBounds_toArray, List.set_cons_zero, List.set_cons_succ, i64_w, i32_w]
                rfl
              refine pure_ (i := 8) (N := some 43) (v := ?_) (a' := ?_) #[true, true, true, true, true, true, true, false, true, false, false, false, false] rfl rfl (by kernel_rfl) (fun _ _ _ h => h) (Or.inl ⟨by rfl, ?_⟩) ?_ ?_
              rotate_left
              · intro w'
                go_simp
                with_reducible rfl
              rotate_left
              · simp only [Act.put, List.setIfInBounds_toArray, List.set_cons_zero, List.set_cons_succ, i64_w, i32_w]
                rfl
              refine take_ (i := 7) (N := some 42) (v := ?_) (a' := ?_) #[true, true, true, true, true, true, true, true, true, false, false, false, false] rfl rfl (by kernel_rfl) (fun _ _ _ h => h) (Or.inl ⟨by rfl, ?_⟩) hHeld ?_ ?_
              rotate_left
              · intro w' s0
                go_simp
                with_reducible rfl
              rotate_left
              · simp only [Act.put, List.setIfInBounds_toArray, List.set_cons_zero, List.set_cons_succ, i64_w, i32_w]
                rfl
              refine one_ (i := 9) (N := some 44) #[true, true, true, true, true, true, true, true, true, true, false, false, false] rfl rfl (by kernel_rfl) (by decide) (fun K hK => ?_)
              refine goes_ Tryd.func47 (by kernel_rfl) rfl #[.int .i64 x] (by rfl) rfl rfl (by simp only [List.map_toArray, List.map_cons, List.map_nil]; rfl) ?_
              with_reducible refine (HPl.out _).mono ?_
              rintro e w6 ⟨rfl, hb6⟩
              refine ⟨_, rfl, ?_⟩
              have B6 := Aside0.mk (B.out.trans ((show Below wr.heap.size wr w6 from ⟨hb6.os, hb6.tape, hb6.output, hb6.size, hb6.block⟩).mono B.out.size))
              have BK6 := Aside0.mk (blk_below (w := wr.drew) BK.out hb6)
              have HT6 := Aside0.mk (HT.out.trans (Turned.of_below (w := wr) ⟨hb6.os, hb6.tape, hb6.output, hb6.size, hb6.block⟩))
              have c7 : w6.cell? ⟨w1.heap.size, offT x, none⟩ = some (.int .i64 n) := (blk_cell BK6.out (offT x)).trans HC0.out
              have z7 := blk_frozen BK6.out (offT x)
              refine hK.out _ _ ((hb6.cell (p := ⟨w1.heap.size, offT x, none⟩) hbl).trans hHeld) (fun hHeld => ?_)
              clear hK K
              refine norm_ (a' := ?_) ?_ ?_
              rotate_left
              · show Act.put _ (some 44) _ = _
                simp only [Act.put, List.setIfInBounds_toArray, List.set_cons_zero, List.set_cons_succ, i64_w, i32_w]
                rfl
              refine pure_ (i := 10) (N := some 45) (v := ?_) (a' := ?_) #[true, true, true, true, true, true, true, true, true, true, true, false, false] rfl rfl (by kernel_rfl) (fun _ _ _ h => h) (Or.inl ⟨by rfl, ?_⟩) ?_ ?_
              rotate_left
              · intro w'
                go_simp
                with_reducible rfl
              rotate_left
              · simp only [Act.put, List.setIfInBounds_toArray, List.set_cons_zero, List.set_cons_succ, i64_w, i32_w]
                rfl
              refine pure_ (i := 11) (N := some 46) (v := ?_) (a' := ?_) #[true, true, true, true, true, true, true, true, true, true, true, true, false] rfl rfl (by kernel_rfl) (fun _ _ _ h => h) (Or.inl ⟨by rfl, ?_⟩) ?_ ?_
              rotate_left
              · intro w'
                go_simp
                with_reducible rfl
              rotate_left
              · simp only [Act.put, List.setIfInBounds_toArray, List.set_cons_zero, List.set_cons_succ, i64_w, i32_w]
                rfl
              refine pure_ (i := 12) (N := some 47) (v := ?_) (a' := ?_) #[true, true, true, true, true, true, true, true, true, true, true, true, true] rfl rfl (by kernel_rfl) (fun _ _ _ h => h) (Or.inl ⟨by rfl, ?_⟩) ?_ ?_
              rotate_left
              · intro w'
                go_simp
                with_reducible rfl
              rotate_left
              · simp only [Act.put, List.setIfInBounds_toArray, List.set_cons_zero, List.set_cons_succ, i64_w, i32_w]
                rfl
              refine done_ (by kernel_rfl) ?_

              go_wp2
              refine ⟨⟨i + 1, clearF r x, by rw [show ((i + 1 : Nat) : Int) = (i : Int) + 1 by omega], by omega, ⟨by rw [← HCl.out]; exact blk_set BK6.out (offT x) _⟩, ⟨B6.out.setCell (by show w.heap.size ≤ w1.heap.size; have := HW1.out; omega) _⟩, ⟨HT6.out.setCell (p := ⟨w1.heap.size, offT x, none⟩) rfl _⟩, HA2, hc1s.1, hc1s.2⟩, ?_⟩
              show sl.length - ((i : Int) + 1).toNat < sl.length - ((i : Int)).toNat
              omega
      · have k1 : decide ((i : Int) < (sl.length : Int)) = false := by rw [decide_eq_false_iff_not]; omega
        have HF : Aside0 (decide (r = zTell) = res) := ⟨by have h := HA.out; rw [List.drop_eq_nil_of_le (by omega)] at h; exact h⟩
        by_cases hz : r = zTell
        · have HT1 : Aside0 (true = res) := ⟨by have h := HF.out; rw [decide_eq_true hz] at h; exact h⟩
          subst hz
          have hbox : wr.heap[w1.heap.size]? = some (.cells #[.int .i64 0, .string ⟨#[]⟩, .string ⟨#[]⟩, .int .i64 0, .int .i64 0, .int .i64 0, .int .i64 0, .int .i64 0, .int .i64 0, .int .i64 0] 23 (0, 0)) := BK.out
          have hcr := fun i => blk_cell hbox i
          clear HA hbox HF
          go_wp2
          go_ret
          exact RtIs.mk_ HT1.out B.out
        · have HT1 : Aside0 (false = res) := ⟨by have h := HF.out; rw [decide_eq_false hz] at h; exact h⟩
          have HNz := Aside0.mk hz
          have hbox : wr.heap[w1.heap.size]? = some (.cells #[.int .i64 r.f0, .string r.f1, .string r.f2, .int .i64 r.f3, .int .i64 r.f4, .int .i64 r.f5, .int .i64 r.f6, .int .i64 r.f7, .int .i64 r.f8, .int .i64 r.f9] 23 (0, 0)) := BK.out
          have hcr := fun i => blk_cell hbox i
          clear HA hbox HF hz
          go_wp2
          all_goals try (go_ret; exact RtIs.mk_ HT1.out B.out)
          exact (HNz.out (tell_zero_of r (by assumption) (by assumption) (by assumption) (by assumption) (by assumption) (by assumption) (by assumption) (by assumption) (by assumption) (by assumption))).elim
  · have HR0 : Aside0 (false = rightT a) := ⟨by unfold rightT; rw [if_neg hk]⟩
    have HW : Aside0 (∀ W, Calls Tryd.prog 45 #[.int .i64 a.f0] W fun e w' => e = .returned (.string ⟨#[]⟩) ∧ Drawn0 W w') := ⟨fun W => tell_word.calls _ _ W (word_none _ hk)⟩
    clear hk
    go_enter Tryd.func18, Tryd.ntmps18
    go_wp2_with (go_at_call 45; refine (HW.out _).mono ?_; rintro en w1 ⟨rfl, hd⟩; have B1 := Aside0.mk (HB0.out.trans (hd.below.mono HB0.out.size)); clear hd)
    go_ret
    exact RtIs.mk_ HR0.out B1.out
end Go.Proofs.YtgfigkfcmkdjdaaDoor.B
end
section
namespace Go.Proofs.YtgfigkfcmkdjdaaDoor.B
open Go.RowKit Go.Proofs.YtgfigkfcmkdjdaaDoorW.PrintWords Go.Proofs.YtgfigkfcmkdjdaaDoorW.PrintLast Go.Proofs.YtgfigkfcmkdjdaaDoorW.PrintMore
attribute [local go_sem] max2_int min2_int max_two min_two max_three min_three max_four min_four   -- for this text's walks alone
set_option linter.unusedVariables false
set_option linter.unusedSimpArgs false
def tag_value.f (a0 : ByteArray) : Option Bool := if a0.size ≤ 9223372036854775807 then some (valueL a0.data.toList) else none
def BoolIs (b : Bool) (w : World) (e : Ending) (w' : World) : Prop := e = .returned (.bool b) ∧ Below w.heap.size w w'
theorem BoolIs.mk_ {a b : Bool} {w w' : World} (h : a = b) (hw : Below w.heap.size w w') : BoolIs b w (.returned (.bool a)) w' := by subst h; exact ⟨rfl, hw⟩
set_option maxHeartbeats 1000000 in
theorem tag_value_walk (s : ByteArray) (w : World) (hs : s.size ≤ 9223372036854775807) :
    Calls Tryd.prog 120 #[.string s] w (BoolIs (valueL s.data.toList) w) := by
  have hV : valueL s.data.toList = (decide (1 ≤ s.size) && (decide (s.size ≤ 512) && allMay s.data.toList)) := rfl
  by_cases c1 : s.size < 1
  · have HF := Aside0.mk (show false = valueL s.data.toList by rw [hV, decide_eq_false (by omega)]; rfl)
    have t1 : decide ((s.size : Int) < 1) = true := by rw [decide_eq_true_eq]; omega
    clear hV
    go_enter Tryd.func120, Tryd.ntmps120
    go_wp2
    go_ret
    exact BoolIs.mk_ HF.out (Below.refl _ _)
  have t1 : decide ((s.size : Int) < 1) = false := by rw [decide_eq_false_iff_not]; omega
  by_cases c2 : 512 < s.size
  · have HF := Aside0.mk (show false = valueL s.data.toList by rw [hV, decide_eq_false (p := s.size ≤ 512) (by omega)]; simp)
    have t2 : decide ((512 : Int) < (s.size : Int)) = true := by rw [decide_eq_true_eq]; omega
    clear hV
    go_enter Tryd.func120, Tryd.ntmps120
    go_wp2
    go_ret
    exact BoolIs.mk_ HF.out (Below.refl _ _)
  have t2 : decide ((512 : Int) < (s.size : Int)) = false := by rw [decide_eq_false_iff_not]; omega
  have HF := Aside0.mk (show valueL s.data.toList = allMay s.data.toList by rw [hV, decide_eq_true (by omega), decide_eq_true (by omega)]; simp)
  have HB : Aside0 (∀ p, Below w.heap.size w (w.iter s p)) := ⟨fun p => (Below.refl _ _).alloc (Nat.le_refl _) _⟩
  clear hV
  go_enter Tryd.func120, Tryd.ntmps120
  go_wp2
  go_loopw [4] (fun _ w' => ∃ pos : Nat, w' = w.iter s pos ∧ Aside0 (allMay (s.data.toList.drop pos) = allMay s.data.toList)) (fun _ w' => s.size - w'.iterPos w.heap.size)
  case atStart => exact ⟨0, rfl, ⟨rfl⟩⟩
  case round =>
    obtain ⟨pos, rfl, hA⟩ := hrel
    by_cases hp : pos < s.size
    · have hnx : ∀ ty, (Instr.next (.pointer (some ⟨w.heap.size, 0, none⟩)) true ty).run Tryd.prog (w.iter s pos) = _ := fun ty => run_next_any w s pos ty hp
      have hle := decode_le s pos
      have hst := hA.out
      rw [allMay_cons _ (drop_ne_nil s pos hp), dec_drop, List.drop_drop] at hst
      have hwd := dec_width (s.data.toList.drop pos)
      rw [dec_drop] at hwd
      clear hA
      generalize (Utf8.decode s pos).1 = r at *
      generalize (Utf8.decode s pos).2 = wd at *
      have HM : Aside0 (∀ w, Calls Tryd.prog 137 #[.int .i32 (r : Int)] w fun e w' => e = .returned (.bool (mayB r)) ∧ w = w') := ⟨fun w => tag_may_same r hle w⟩
      cases hm : mayB r with
      | false =>
        rw [hm] at hst HM
        have HS := Aside0.mk hst
        clear hst hm
        go_wp2_with (go_at_call 137; refine (HM.out _).mono ?_; rintro e w1 ⟨rfl, rfl⟩)
        go_ret
        exact BoolIs.mk_ (by rw [HF.out, ← HS.out]; rfl) (HB.out _)
      | true =>
        rw [hm] at hst HM
        have HS := Aside0.mk hst
        clear hst hm
        go_wp2_with (go_at_call 137; refine (HM.out _).mono ?_; rintro e w1 ⟨rfl, rfl⟩)
        go_roundw
        case rel => exact ⟨pos + wd, rfl, ⟨by have := HS.out; simpa using this⟩⟩
        case measure => simp; omega
    · have hnx : ∀ ty, (Instr.next (.pointer (some ⟨w.heap.size, 0, none⟩)) true ty).run Tryd.prog (w.iter s pos) = _ := fun ty => run_next_end w s pos ty hp
      have HS := Aside0.mk (show true = allMay s.data.toList by rw [← hA.out, drop_nil_of s pos hp, allMay_nil])
      clear hA
      go_wp2
      go_ret
      exact BoolIs.mk_ (by rw [HF.out]; exact HS.out) (HB.out _)
theorem tag_value.calls (a0 : ByteArray) (r : Bool) (w : World) (h : tag_value.f a0 = some r) :
    Calls Tryd.prog 120 #[.string a0] w fun e w' => e = .returned (.bool r) ∧ Below w.heap.size w w' := by
  unfold tag_value.f at h
  by_cases c : a0.size ≤ 9223372036854775807
  · rw [if_pos c] at h
    obtain rfl := Option.some.inj h
    exact tag_value_walk a0 w c
  · rw [if_neg c] at h; cases h
end Go.Proofs.YtgfigkfcmkdjdaaDoor.B
end
section
namespace Go.Proofs.YtgfigkfcmkdjdaaDoor.B
open Go.RowKit Go.Proofs.YtgfigkfcmkdjdaaDoorW.PrintWords Go.Proofs.YtgfigkfcmkdjdaaDoorW.PrintLast Go.Proofs.YtgfigkfcmkdjdaaDoorW.PrintMore
attribute [local go_sem] max2_int min2_int max_two min_two max_three min_three max_four min_four   -- for this text's walks alone
set_option linter.unusedVariables false
set_option linter.unusedSimpArgs false
def strconv_Itoa.f (a0 : Int) : Option ByteArray := if 0 ≤ a0 ∧ a0 ≤ 9223372036854775807 then some (digitsB a0) else none
theorem strconv_Itoa.calls (a0 : Int) (r : ByteArray) (w : World) (hT_ : Aside0 (Tabs_ w)) (h : strconv_Itoa.f a0 = some r) :
    Calls Tryd.prog 49 #[.int .i64 a0] w fun e w' => e = .returned (.string r) ∧ Below w.heap.size w w' := by
  unfold strconv_Itoa.f at h
  by_cases c : 0 ≤ a0 ∧ a0 ≤ 9223372036854775807
  · rw [if_pos c] at h
    obtain rfl := Option.some.inj h
    refine (Tryd.strconv_Itoa a0 (by omega) c.2 w hT_.out.tab).mono ?_
    rintro e w' ⟨rfl, k, os, rfl⟩
    refine ⟨?_, Lib.below_grow _ w (Nat.le_refl _) k os⟩
    obtain ⟨n, rfl⟩ := Int.eq_ofNat_of_zero_le c.1
    unfold digitsB
    rw [Lib.itoa_nonneg, decDigits_digitsN, Int.toNat_natCast]
  · rw [if_neg c] at h; cases h
end Go.Proofs.YtgfigkfcmkdjdaaDoor.B
end
