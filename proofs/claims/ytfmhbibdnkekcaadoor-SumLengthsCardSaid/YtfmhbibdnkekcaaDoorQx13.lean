/- Each Go function that the laws of this seat reach, as a plain Lean function, and its contract: the machine's call does what that function says. -/
import Derived.Test.YtfmhbibdnkekcaaDoorQx0
import Derived.Test.YtfmhbibdnkekcaaDoorQx1
import Derived.Test.YtfmhbibdnkekcaaDoorQx3
import Derived.Test.YtfmhbibdnkekcaaDoorQx8
import Derived.Test.YtfmhbibdnkekcaaDoorQx9
import Derived.Test.YtfmhbibdnkekcaaDoorQx12
namespace Go.Proofs.YtfmhbibdnkekcaaDoor.Q
open Go.RowKit Go.Proofs.YtfmhbibdnkekcaaDoorW.PrintWords Go.Proofs.YtfmhbibdnkekcaaDoorW.PrintLast Go.Proofs.YtfmhbibdnkekcaaDoorW.PrintMore
attribute [local go_sem] max2_int min2_int max_two min_two max_three min_three max_four min_four   -- for this text's walks alone
set_option linter.unusedVariables false
set_option linter.unusedSimpArgs false

--PART
/-! ### sum_Read: function 11 -/
def threeVal (s : ByteArray) : Int := 100 * (bt s 0 - 48) + 10 * (bt s 1 - 48) + (bt s 2 - 48)
/-- The number from 0 to 255 whose three digits a text is; below 0: there is none. -/
def threeNo (s : ByteArray) : Int := if 0 ≤ threeVal s ∧ threeVal s ≤ 255 ∧ (threeOf (threeVal s)).data.toList = s.data.toList then threeVal s else -1
theorem threeOf_size (n : Int) : (threeOf n).size = 3 := by unfold threeOf; rw [strOfNums_size]; rfl
theorem threeOf_list (n : Int) : (threeOf n).data.toList = [UInt8.ofNat (48 + n / 100).toNat, UInt8.ofNat (48 + n / 10 % 10).toNat, UInt8.ofNat (48 + n % 10).toNat] := rfl
theorem bt_list (s : ByteArray) (i : Nat) (b : UInt8) (h : s.data.toList[i]? = some b) : bt s i = (b.toNat : Int) := by
  obtain ⟨hl, e⟩ := List.getElem?_eq_some_iff.1 h
  rw [bt_get s i hl, e]
theorem threeVal_of (s : ByteArray) (n : Int) (h0 : 0 ≤ n) (h1 : n ≤ 255) (e : s.data.toList = (threeOf n).data.toList) : threeVal s = n := by
  rw [threeOf_list] at e
  have b0 := bt_list s 0 _ (by rw [e]; rfl)
  have b1 := bt_list s 1 _ (by rw [e]; rfl)
  have b2 := bt_list s 2 _ (by rw [e]; rfl)
  unfold threeVal
  rw [show ((0 : Nat) : Int) = 0 from rfl] at b0
  rw [show ((1 : Nat) : Int) = 1 from rfl] at b1
  rw [show ((2 : Nat) : Int) = 2 from rfl] at b2
  rw [b0, b1, b2, ofNat_toNat_small (by omega), ofNat_toNat_small (by omega), ofNat_toNat_small (by omega)]
  omega
theorem threeNo_of (s : ByteArray) (n : Int) (h0 : 0 ≤ n) (h1 : n ≤ 255) (e : s.data.toList = (threeOf n).data.toList) : threeNo s = n := by
  have hv := threeVal_of s n h0 h1 e
  unfold threeNo; rw [hv, if_pos ⟨h0, h1, e.symm⟩]
theorem threeNo_range (s : ByteArray) : -1 ≤ threeNo s ∧ threeNo s ≤ 255 := by unfold threeNo; split <;> omega
theorem threeNo_yes (s : ByteArray) (h : 0 ≤ threeNo s) : (threeOf (threeNo s)).data.toList = s.data.toList := by
  unfold threeNo at h ⊢; split at h
  · rename_i c; rw [if_pos c]; exact c.2.2
  · omega
theorem sum_Read_eq (s : ByteArray) : sum_Read_p.f 5 s = some (if 0 ≤ threeNo s then (threeNo s, 0) else (0, 112)) := by
  have hno : threeNo s < 0 → some (if 0 ≤ threeNo s then (threeNo s, (0 : Int)) else (0, 112)) = some (0, 112) := fun h => by rw [if_neg (by omega)]
  unfold sum_Read_p.f
  by_cases h3 : (s.size : Int) = 3
  · rw [if_pos h3]
    obtain ⟨a, b, c, e⟩ : ∃ a b c, s.data.toList = [a, b, c] := by
      have hl : s.data.toList.length = 3 := by rw [size_list]; omega
      match s.data.toList, hl with
      | [a, b, c], _ => exact ⟨a, b, c, rfl⟩
    have b0 : bt s 0 = (a.toNat : Int) := bt_list s 0 a (by rw [e]; rfl)
    have b1 : bt s 1 = (b.toNat : Int) := bt_list s 1 b (by rw [e]; rfl)
    have b2 : bt s 2 = (c.toNat : Int) := bt_list s 2 c (by rw [e]; rfl)
    have ha := u8_lt a
    have hb := u8_lt b
    have hc := u8_lt c
    have hbad : (¬ isDig a ∨ ¬ isDig b ∨ ¬ isDig c ∨ 255 < threeVal s) → threeNo s < 0 := by
      intro h
      unfold threeNo
      rw [if_neg]
      · omega
      · rintro ⟨g0, g1, g2⟩
        rw [threeOf_list, e] at g2
        simp only [List.cons.injEq, and_true] at g2
        obtain ⟨p, q, r⟩ := g2
        have da : isDig a := by rw [← p]; unfold isDig; rw [ofNat_toNat_small (by omega)]; omega
        have db : isDig b := by rw [← q]; unfold isDig; rw [ofNat_toNat_small (by omega)]; omega
        have dc : isDig c := by rw [← r]; unfold isDig; rw [ofNat_toNat_small (by omega)]; omega
        rcases h with h | h | h | h
        · exact h da
        · exact h db
        · exact h dc
        · omega
    unfold isDig at hbad
    simp only [sum_Read_p.l0]
    rw [if_pos (by omega), if_pos (by omega), if_pos (by omega), b0]
    by_cases c1 : (a.toNat : Int) < 48
    · rw [if_pos c1, hno (hbad (by omega))]
    rw [if_neg c1]
    by_cases c2 : (a.toNat : Int) > 57
    · rw [if_pos c2, hno (hbad (by omega))]
    rw [if_neg c2, w01, if_pos (by omega), if_pos (by omega), if_pos (by omega), b1]
    by_cases c3 : (b.toNat : Int) < 48
    · rw [if_pos c3, hno (hbad (by omega))]
    rw [if_neg c3]
    by_cases c4 : (b.toNat : Int) > 57
    · rw [if_pos c4, hno (hbad (by omega))]
    rw [if_neg c4, w12, if_pos (by omega), if_pos (by omega), if_pos (by omega), b2]
    by_cases c5 : (c.toNat : Int) < 48
    · rw [if_pos c5, hno (hbad (by omega))]
    rw [if_neg c5]
    by_cases c6 : (c.toNat : Int) > 57
    · rw [if_pos c6, hno (hbad (by omega))]
    rw [if_neg c6, w23, if_neg (by omega)]
    rw [w64 (x := 10 * 0) (by omega) (by omega), w64 (x := 10 * 0 + _) (by omega) (by omega), w64 (x := 10 * (10 * 0 + _)) (by omega) (by omega), w64 (x := 10 * (10 * 0 + _) + _) (by omega) (by omega), w64 (x := 10 * (10 * (10 * 0 + _) + _)) (by omega) (by omega), w64 (by omega) (by omega)]
    have ev : 10 * (10 * (10 * 0 + ((a.toNat : Int) - 48) % 256) + ((b.toNat : Int) - 48) % 256) + ((c.toNat : Int) - 48) % 256 = threeVal s := by
      unfold threeVal; rw [b0, b1, b2]; omega
    rw [ev]
    have hv : threeVal s = 100 * ((a.toNat : Int) - 48) + 10 * ((b.toNat : Int) - 48) + ((c.toNat : Int) - 48) := by unfold threeVal; rw [b0, b1, b2]
    unfold sum_right.f
    rw [if_pos (by omega)]
    simp only [Option.bind_some]
    by_cases c7 : threeVal s ≤ 255
    · rw [if_pos (by simpa using c7)]
      have e0 : UInt8.ofNat (48 + threeVal s / 100).toNat = a := u8_ext (by rw [ofNat_toNat_small (by omega)]; omega)
      have e1 : UInt8.ofNat (48 + threeVal s / 10 % 10).toNat = b := u8_ext (by rw [ofNat_toNat_small (by omega)]; omega)
      have e2 : UInt8.ofNat (48 + threeVal s % 10).toNat = c := u8_ext (by rw [ofNat_toNat_small (by omega)]; omega)
      have : threeNo s = threeVal s := threeNo_of s _ (by omega) c7 (by rw [threeOf_list, e, e0, e1, e2])
      rw [this, if_pos (by omega)]
    · rw [if_neg (by simpa using c7), hno (hbad (by omega))]
  · rw [if_neg h3, hno]
    unfold threeNo
    rw [if_neg]
    · omega
    · rintro ⟨_, _, g⟩
      have := congrArg List.length g
      rw [size_list, size_list, threeOf_size] at this
      omega
def sum_Read.f (a0 : ByteArray) : Option (Int × Int) := some (if 0 ≤ threeNo a0 then (threeNo a0, 0) else (0, 112))
theorem sum_Read.calls (a0 : ByteArray) (r1 : Int) (r2 : Int) (w : World) (h : sum_Read.f a0 = some (r1, r2)) :
    Calls Tryd.prog 11 #[.string a0] w fun e w' => e = .returned (.tuple #[.int .i64 r1, .int .i64 r2]) ∧ Drawn0 w w' :=
  sum_Read_p.calls 5 a0 r1 r2 w ((sum_Read_eq a0).trans h)

end Go.Proofs.YtfmhbibdnkekcaaDoor.Q
