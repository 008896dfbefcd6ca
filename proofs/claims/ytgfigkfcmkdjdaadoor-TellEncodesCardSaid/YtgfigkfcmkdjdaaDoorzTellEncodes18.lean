/- The functions that the law reaches, as plain Lean functions, and their contracts: texts merged. -/
import Derived.Test.YtgfigkfcmkdjdaaDoorzTellEncodes2
import Derived.Test.YtgfigkfcmkdjdaaDoorzTellEncodes0
import Derived.Test.YtgfigkfcmkdjdaaDoorzTellEncodes1
import Derived.Test.YtgfigkfcmkdjdaaDoorzTellEncodes3
import Derived.Test.YtgfigkfcmkdjdaaDoorzTellEncodes17
section
namespace Go.Proofs.YtgfigkfcmkdjdaaDoor.B
open Go.RowKit Go.Proofs.YtgfigkfcmkdjdaaDoorW.PrintWords Go.Proofs.YtgfigkfcmkdjdaaDoorW.PrintLast Go.Proofs.YtgfigkfcmkdjdaaDoorW.PrintMore
attribute [local go_sem] max2_int min2_int max_two min_two max_three min_three max_four min_four   -- for this text's walks alone
set_option linter.unusedVariables false
set_option linter.unusedSimpArgs false
def spigotref13_Form.f (a0_0 : Int) (a0_1 : ByteArray) (a0_2 : ByteArray) (a0_3 : Int) (a0_4 : Int) (a0_5 : Int) (a0_6 : Int) (a0_7 : Int) (a0_8 : Int) (a0_9 : Int) : Option (ByteArray) := if a0_0 = 1 then ((spigotref12_Put.f (⟨#[49, 49]⟩ : ByteArray) a0_1).bind fun t266 => (if 5 + t266.size ≤ 9223372036854775807 then ((spigotref12_Put.f (⟨#[49, 55]⟩ : ByteArray) a0_2).bind fun t267 => (if ((⟨#[51, 53, 61, 56, 1]⟩ : ByteArray) ++ t266).size + t267.size ≤ 9223372036854775807 then ((spigotref12_Number.f (⟨#[51, 57]⟩ : ByteArray) a0_3).bind fun t268 => (if (((⟨#[51, 53, 61, 56, 1]⟩ : ByteArray) ++ t266) ++ t267).size + t268.size ≤ 9223372036854775807 then ((spigotref12_Number.f (⟨#[51, 50]⟩ : ByteArray) a0_4).bind fun t269 => ((spigotref12_Number.f (⟨#[51, 49]⟩ : ByteArray) a0_5).bind fun t270 => (if t269.size + t270.size ≤ 9223372036854775807 then ((spigotref12_Number.f (⟨#[49, 52]⟩ : ByteArray) a0_6).bind fun t271 => (if (t269 ++ t270).size + t271.size ≤ 9223372036854775807 then (if ((((⟨#[51, 53, 61, 56, 1]⟩ : ByteArray) ++ t266) ++ t267) ++ t268).size + ((t269 ++ t270) ++ t271).size ≤ 9223372036854775807 then ((spigotref12_Number.f (⟨#[49, 53, 49]⟩ : ByteArray) a0_7).bind fun t272 => (if (((((⟨#[51, 53, 61, 56, 1]⟩ : ByteArray) ++ t266) ++ t267) ++ t268) ++ ((t269 ++ t270) ++ t271)).size + t272.size ≤ 9223372036854775807 then ((spigotref12_Number.f (⟨#[49, 48, 51]⟩ : ByteArray) a0_9).bind fun t273 => (if ((((((⟨#[51, 53, 61, 56, 1]⟩ : ByteArray) ++ t266) ++ t267) ++ t268) ++ ((t269 ++ t270) ++ t271)) ++ t272).size + t273.size ≤ 9223372036854775807 then (some (((((((⟨#[51, 53, 61, 56, 1]⟩ : ByteArray) ++ t266) ++ t267) ++ t268) ++ ((t269 ++ t270) ++ t271)) ++ t272) ++ t273)) else (none))) else (none))) else (none)) else (none))) else (none)))) else (none))) else (none))) else (none))) else (if a0_0 = 2 then ((spigotref12_Put.f (⟨#[49, 49]⟩ : ByteArray) a0_1).bind fun t274 => (if 5 + t274.size ≤ 9223372036854775807 then ((spigotref12_Number.f (⟨#[51, 57]⟩ : ByteArray) a0_3).bind fun t275 => (if ((⟨#[51, 53, 61, 57, 1]⟩ : ByteArray) ++ t274).size + t275.size ≤ 9223372036854775807 then ((spigotref12_Number.f (⟨#[49, 48, 51]⟩ : ByteArray) a0_9).bind fun t276 => (if (((⟨#[51, 53, 61, 57, 1]⟩ : ByteArray) ++ t274) ++ t275).size + t276.size ≤ 9223372036854775807 then (some ((((⟨#[51, 53, 61, 57, 1]⟩ : ByteArray) ++ t274) ++ t275) ++ t276)) else (none))) else (none))) else (none))) else (if a0_0 = 3 then ((spigotref12_Number.f (⟨#[51, 55, 49]⟩ : ByteArray) a0_8).bind fun t277 => (if 5 + t277.size ≤ 9223372036854775807 then ((spigotref12_Number.f (⟨#[51, 55, 51]⟩ : ByteArray) a0_9).bind fun t278 => (if ((⟨#[51, 53, 61, 51, 1]⟩ : ByteArray) ++ t277).size + t278.size ≤ 9223372036854775807 then (some (((⟨#[51, 53, 61, 51, 1]⟩ : ByteArray) ++ t277) ++ t278)) else (none))) else (none))) else ((spigotref12_Number.f (⟨#[51, 55, 49]⟩ : ByteArray) a0_8).bind fun t279 => (if 5 + t279.size ≤ 9223372036854775807 then ((spigotref12_Number.f (⟨#[51, 56, 48]⟩ : ByteArray) a0_9).bind fun t280 => (if ((⟨#[51, 53, 61, 106, 1]⟩ : ByteArray) ++ t279).size + t280.size ≤ 9223372036854775807 then (some (((⟨#[51, 53, 61, 106, 1]⟩ : ByteArray) ++ t279) ++ t280)) else (none))) else (none)))))
def spigotref13_Form.T2 : Bool × List (List Nat × List Nat) := (true, [([], []), ([0], [0]), ([1], [1]), ([2], [2]), ([], []), ([4], [4]), ([5, 2], [5]), ([3, 6], [3, 6]), ([], []), ([8], [8]), ([9, 6], [9]), ([7, 10], [7, 10]), ([11, 10, 0, 1, 2, 3, 4, 5, 6, 7, 8, 9, 10, 11], [11])])
def spigotref13_Form.B2 : List Nat := [0, 1, 3, 7, 0, 16, 55, 127, 0, 256, 887, 2047, 4095]
theorem spigotref13_Form.tab2 : rtab .any (opsOf Tryd.f52 2) = spigotref13_Form.T2 := by kernel_rfl
theorem spigotref13_Form.bits2 : waitsOk spigotref13_Form.T2.2 spigotref13_Form.B2 = true := by kernel_rfl
def spigotref13_Form.T3 : Bool × List (List Nat × List Nat) := (true, [([], []), ([], []), ([1], [1]), ([2], [2]), ([], []), ([4], [4]), ([5, 3], [5]), ([3, 6], [3, 6]), ([], []), ([8], [8]), ([9, 6], [9]), ([7, 10], [7, 10]), ([0, 11], [0, 11]), ([12, 10, 0, 1, 2, 3, 4, 5, 6, 7, 8, 9, 10, 11, 12], [0, 12])])
def spigotref13_Form.B3 : List Nat := [0, 0, 2, 6, 0, 16, 62, 126, 0, 256, 894, 2046, 4095, 8191]
theorem spigotref13_Form.tab3 : rtab .any (opsOf Tryd.f52 3) = spigotref13_Form.T3 := by kernel_rfl
theorem spigotref13_Form.bits3 : waitsOk spigotref13_Form.T3.2 spigotref13_Form.B3 = true := by kernel_rfl
def spigotref13_Form.T4 : Bool × List (List Nat × List Nat) := (true, [([], []), ([], []), ([1], [1]), ([2], [2]), ([0, 3], [0, 3]), ([], []), ([5], [5]), ([6, 3], [6]), ([4, 7], [4, 7]), ([8, 7, 0, 1, 2, 3, 4, 5, 6, 7, 8], [8])])
def spigotref13_Form.B4 : List Nat := [0, 0, 2, 6, 15, 0, 32, 110, 255, 511]
theorem spigotref13_Form.tab4 : rtab .any (opsOf Tryd.f52 4) = spigotref13_Form.T4 := by kernel_rfl
theorem spigotref13_Form.bits4 : waitsOk spigotref13_Form.T4.2 spigotref13_Form.B4 = true := by kernel_rfl
def spigotref13_Form.T6 : Bool × List (List Nat × List Nat) := (true, [([], []), ([0], [0]), ([1], [1]), ([2], [2]), ([], []), ([4], [4]), ([5, 2], [5]), ([3, 6], [3, 6]), ([], []), ([8], [8]), ([9, 6], [9]), ([7, 10], [7, 10]), ([11, 10, 0, 1, 2, 3, 4, 5, 6, 7, 8, 9, 10, 11], [11])])
def spigotref13_Form.B6 : List Nat := [0, 1, 3, 7, 0, 16, 55, 127, 0, 256, 887, 2047, 4095]
theorem spigotref13_Form.tab6 : rtab .any (opsOf Tryd.f52 6) = spigotref13_Form.T6 := by kernel_rfl
theorem spigotref13_Form.bits6 : waitsOk spigotref13_Form.T6.2 spigotref13_Form.B6 = true := by kernel_rfl
def spigotref13_Form.T8 : Bool × List (List Nat × List Nat) := (true, [([], []), ([0], [0]), ([1], [1]), ([2], [2]), ([], []), ([4], [4]), ([5, 2], [5]), ([3, 6], [3, 6]), ([7, 6, 0, 1, 2, 3, 4, 5, 6, 7], [7])])
def spigotref13_Form.B8 : List Nat := [0, 1, 3, 7, 0, 16, 55, 127, 255]
theorem spigotref13_Form.tab8 : rtab .any (opsOf Tryd.f52 8) = spigotref13_Form.T8 := by kernel_rfl
theorem spigotref13_Form.bits8 : waitsOk spigotref13_Form.T8.2 spigotref13_Form.B8 = true := by kernel_rfl
def spigotref13_Form.T9 : Bool × List (List Nat × List Nat) := (true, [([], []), ([0], [0]), ([1], [1]), ([2], [2]), ([], []), ([4], [4]), ([5, 2], [5]), ([3, 6], [3, 6]), ([7, 6, 0, 1, 2, 3, 4, 5, 6, 7], [7])])
def spigotref13_Form.B9 : List Nat := [0, 1, 3, 7, 0, 16, 55, 127, 255]
theorem spigotref13_Form.tab9 : rtab .any (opsOf Tryd.f52 9) = spigotref13_Form.T9 := by kernel_rfl
theorem spigotref13_Form.bits9 : waitsOk spigotref13_Form.T9.2 spigotref13_Form.B9 = true := by kernel_rfl
set_option maxHeartbeats 8000000 in
set_option maxRecDepth 100000 in
theorem spigotref13_Form.calls (a0_0 : Int) (a0_1 : ByteArray) (a0_2 : ByteArray) (a0_3 : Int) (a0_4 : Int) (a0_5 : Int) (a0_6 : Int) (a0_7 : Int) (a0_8 : Int) (a0_9 : Int) (r : ByteArray) (w : World) (h : spigotref13_Form.f a0_0 a0_1 a0_2 a0_3 a0_4 a0_5 a0_6 a0_7 a0_8 a0_9 = some r) :
    Calls Tryd.prog 52 #[.agg #[.int .i64 a0_0, .string a0_1, .string a0_2, .int .i64 a0_3, .int .i64 a0_4, .int .i64 a0_5, .int .i64 a0_6, .int .i64 a0_7, .int .i64 a0_8, .int .i64 a0_9]] w fun e w' => e = .returned (.string r) ∧ Below w.heap.size w w' := by
  have hu31 := Tryd.underlying31
  have HB := Aside0.mk (Below.refl w.heap.size w)
  have H : (if a0_0 = 1 then ((spigotref12_Put.f (⟨#[49, 49]⟩ : ByteArray) a0_1).bind fun t266 => (if 5 + t266.size ≤ 9223372036854775807 then ((spigotref12_Put.f (⟨#[49, 55]⟩ : ByteArray) a0_2).bind fun t267 => (if ((⟨#[51, 53, 61, 56, 1]⟩ : ByteArray) ++ t266).size + t267.size ≤ 9223372036854775807 then ((spigotref12_Number.f (⟨#[51, 57]⟩ : ByteArray) a0_3).bind fun t268 => (if (((⟨#[51, 53, 61, 56, 1]⟩ : ByteArray) ++ t266) ++ t267).size + t268.size ≤ 9223372036854775807 then ((spigotref12_Number.f (⟨#[51, 50]⟩ : ByteArray) a0_4).bind fun t269 => ((spigotref12_Number.f (⟨#[51, 49]⟩ : ByteArray) a0_5).bind fun t270 => (if t269.size + t270.size ≤ 9223372036854775807 then ((spigotref12_Number.f (⟨#[49, 52]⟩ : ByteArray) a0_6).bind fun t271 => (if (t269 ++ t270).size + t271.size ≤ 9223372036854775807 then (if ((((⟨#[51, 53, 61, 56, 1]⟩ : ByteArray) ++ t266) ++ t267) ++ t268).size + ((t269 ++ t270) ++ t271).size ≤ 9223372036854775807 then ((spigotref12_Number.f (⟨#[49, 53, 49]⟩ : ByteArray) a0_7).bind fun t272 => (if (((((⟨#[51, 53, 61, 56, 1]⟩ : ByteArray) ++ t266) ++ t267) ++ t268) ++ ((t269 ++ t270) ++ t271)).size + t272.size ≤ 9223372036854775807 then ((spigotref12_Number.f (⟨#[49, 48, 51]⟩ : ByteArray) a0_9).bind fun t273 => (if ((((((⟨#[51, 53, 61, 56, 1]⟩ : ByteArray) ++ t266) ++ t267) ++ t268) ++ ((t269 ++ t270) ++ t271)) ++ t272).size + t273.size ≤ 9223372036854775807 then (some (((((((⟨#[51, 53, 61, 56, 1]⟩ : ByteArray) ++ t266) ++ t267) ++ t268) ++ ((t269 ++ t270) ++ t271)) ++ t272) ++ t273)) else (none))) else (none))) else (none)) else (none))) else (none)))) else (none))) else (none))) else (none))) else (if a0_0 = 2 then ((spigotref12_Put.f (⟨#[49, 49]⟩ : ByteArray) a0_1).bind fun t274 => (if 5 + t274.size ≤ 9223372036854775807 then ((spigotref12_Number.f (⟨#[51, 57]⟩ : ByteArray) a0_3).bind fun t275 => (if ((⟨#[51, 53, 61, 57, 1]⟩ : ByteArray) ++ t274).size + t275.size ≤ 9223372036854775807 then ((spigotref12_Number.f (⟨#[49, 48, 51]⟩ : ByteArray) a0_9).bind fun t276 => (if (((⟨#[51, 53, 61, 57, 1]⟩ : ByteArray) ++ t274) ++ t275).size + t276.size ≤ 9223372036854775807 then (some ((((⟨#[51, 53, 61, 57, 1]⟩ : ByteArray) ++ t274) ++ t275) ++ t276)) else (none))) else (none))) else (none))) else (if a0_0 = 3 then ((spigotref12_Number.f (⟨#[51, 55, 49]⟩ : ByteArray) a0_8).bind fun t277 => (if 5 + t277.size ≤ 9223372036854775807 then ((spigotref12_Number.f (⟨#[51, 55, 51]⟩ : ByteArray) a0_9).bind fun t278 => (if ((⟨#[51, 53, 61, 51, 1]⟩ : ByteArray) ++ t277).size + t278.size ≤ 9223372036854775807 then (some (((⟨#[51, 53, 61, 51, 1]⟩ : ByteArray) ++ t277) ++ t278)) else (none))) else (none))) else ((spigotref12_Number.f (⟨#[51, 55, 49]⟩ : ByteArray) a0_8).bind fun t279 => (if 5 + t279.size ≤ 9223372036854775807 then ((spigotref12_Number.f (⟨#[51, 56, 48]⟩ : ByteArray) a0_9).bind fun t280 => (if ((⟨#[51, 53, 61, 106, 1]⟩ : ByteArray) ++ t279).size + t280.size ≤ 9223372036854775807 then (some (((⟨#[51, 53, 61, 106, 1]⟩ : ByteArray) ++ t279) ++ t280)) else (none))) else (none)))))) = some r := h
  clear h
  by_cases c2 : a0_0 = 1
  · rw [if_pos c2] at H
    have c2b0 : (a0_0 == 1) = true := beq_iff_eq.mpr c2
    have c2b1 : (a0_0 != 1) = false := bne_eq_false_iff_eq.mpr c2
    clear c2
    replace H := Option.bind_eq_some_iff.mp H
    obtain ⟨t266, A30, H⟩ := H
    replace H : (if 5 + t266.size ≤ 9223372036854775807 then ((spigotref12_Put.f (⟨#[49, 55]⟩ : ByteArray) a0_2).bind fun t267 => (if ((⟨#[51, 53, 61, 56, 1]⟩ : ByteArray) ++ t266).size + t267.size ≤ 9223372036854775807 then ((spigotref12_Number.f (⟨#[51, 57]⟩ : ByteArray) a0_3).bind fun t268 => (if (((⟨#[51, 53, 61, 56, 1]⟩ : ByteArray) ++ t266) ++ t267).size + t268.size ≤ 9223372036854775807 then ((spigotref12_Number.f (⟨#[51, 50]⟩ : ByteArray) a0_4).bind fun t269 => ((spigotref12_Number.f (⟨#[51, 49]⟩ : ByteArray) a0_5).bind fun t270 => (if t269.size + t270.size ≤ 9223372036854775807 then ((spigotref12_Number.f (⟨#[49, 52]⟩ : ByteArray) a0_6).bind fun t271 => (if (t269 ++ t270).size + t271.size ≤ 9223372036854775807 then (if ((((⟨#[51, 53, 61, 56, 1]⟩ : ByteArray) ++ t266) ++ t267) ++ t268).size + ((t269 ++ t270) ++ t271).size ≤ 9223372036854775807 then ((spigotref12_Number.f (⟨#[49, 53, 49]⟩ : ByteArray) a0_7).bind fun t272 => (if (((((⟨#[51, 53, 61, 56, 1]⟩ : ByteArray) ++ t266) ++ t267) ++ t268) ++ ((t269 ++ t270) ++ t271)).size + t272.size ≤ 9223372036854775807 then ((spigotref12_Number.f (⟨#[49, 48, 51]⟩ : ByteArray) a0_9).bind fun t273 => (if ((((((⟨#[51, 53, 61, 56, 1]⟩ : ByteArray) ++ t266) ++ t267) ++ t268) ++ ((t269 ++ t270) ++ t271)) ++ t272).size + t273.size ≤ 9223372036854775807 then (some (((((((⟨#[51, 53, 61, 56, 1]⟩ : ByteArray) ++ t266) ++ t267) ++ t268) ++ ((t269 ++ t270) ++ t271)) ++ t272) ++ t273)) else (none))) else (none))) else (none)) else (none))) else (none)))) else (none))) else (none))) else (none)) = some r := H
    have A3 := Aside0.mk A30
    clear A30
    by_cases c4 : 5 + t266.size ≤ 9223372036854775807
    · rw [if_pos c4] at H
      have c4b0 := eq_true c4
      have c4b1 : decide (5 + t266.size ≤ 9223372036854775807) = true := decide_eq_true c4
      try have c4b2 : (9223372036854775807 < 5 + t266.size) = False := eq_false (Nat.not_lt.2 c4)
      try (have c4b3 := c4; simp only [ByteArray.size_append, sz_lit, List.length_cons, List.length_nil, Nat.zero_add] at c4b3; have c4b4 := eq_false (Nat.not_lt.2 c4b3))
      replace H := Option.bind_eq_some_iff.mp H
      obtain ⟨t267, A50, H⟩ := H
      replace H : (if ((⟨#[51, 53, 61, 56, 1]⟩ : ByteArray) ++ t266).size + t267.size ≤ 9223372036854775807 then ((spigotref12_Number.f (⟨#[51, 57]⟩ : ByteArray) a0_3).bind fun t268 => (if (((⟨#[51, 53, 61, 56, 1]⟩ : ByteArray) ++ t266) ++ t267).size + t268.size ≤ 9223372036854775807 then ((spigotref12_Number.f (⟨#[51, 50]⟩ : ByteArray) a0_4).bind fun t269 => ((spigotref12_Number.f (⟨#[51, 49]⟩ : ByteArray) a0_5).bind fun t270 => (if t269.size + t270.size ≤ 9223372036854775807 then ((spigotref12_Number.f (⟨#[49, 52]⟩ : ByteArray) a0_6).bind fun t271 => (if (t269 ++ t270).size + t271.size ≤ 9223372036854775807 then (if ((((⟨#[51, 53, 61, 56, 1]⟩ : ByteArray) ++ t266) ++ t267) ++ t268).size + ((t269 ++ t270) ++ t271).size ≤ 9223372036854775807 then ((spigotref12_Number.f (⟨#[49, 53, 49]⟩ : ByteArray) a0_7).bind fun t272 => (if (((((⟨#[51, 53, 61, 56, 1]⟩ : ByteArray) ++ t266) ++ t267) ++ t268) ++ ((t269 ++ t270) ++ t271)).size + t272.size ≤ 9223372036854775807 then ((spigotref12_Number.f (⟨#[49, 48, 51]⟩ : ByteArray) a0_9).bind fun t273 => (if ((((((⟨#[51, 53, 61, 56, 1]⟩ : ByteArray) ++ t266) ++ t267) ++ t268) ++ ((t269 ++ t270) ++ t271)) ++ t272).size + t273.size ≤ 9223372036854775807 then (some (((((((⟨#[51, 53, 61, 56, 1]⟩ : ByteArray) ++ t266) ++ t267) ++ t268) ++ ((t269 ++ t270) ++ t271)) ++ t272) ++ t273)) else (none))) else (none))) else (none)) else (none))) else (none)))) else (none))) else (none)) = some r := H
      have A5 := Aside0.mk A50
      clear A50
      by_cases c6 : ((⟨#[51, 53, 61, 56, 1]⟩ : ByteArray) ++ t266).size + t267.size ≤ 9223372036854775807
      · rw [if_pos c6] at H
        have c6b0 := eq_true c6
        have c6b1 : decide (((⟨#[51, 53, 61, 56, 1]⟩ : ByteArray) ++ t266).size + t267.size ≤ 9223372036854775807) = true := decide_eq_true c6
        try have c6b2 : (9223372036854775807 < ((⟨#[51, 53, 61, 56, 1]⟩ : ByteArray) ++ t266).size + t267.size) = False := eq_false (Nat.not_lt.2 c6)
        try (have c6b3 := c6; simp only [ByteArray.size_append, sz_lit, List.length_cons, List.length_nil, Nat.zero_add] at c6b3; have c6b4 := eq_false (Nat.not_lt.2 c6b3))
        replace H := Option.bind_eq_some_iff.mp H
        obtain ⟨t268, A70, H⟩ := H
        replace H : (if (((⟨#[51, 53, 61, 56, 1]⟩ : ByteArray) ++ t266) ++ t267).size + t268.size ≤ 9223372036854775807 then ((spigotref12_Number.f (⟨#[51, 50]⟩ : ByteArray) a0_4).bind fun t269 => ((spigotref12_Number.f (⟨#[51, 49]⟩ : ByteArray) a0_5).bind fun t270 => (if t269.size + t270.size ≤ 9223372036854775807 then ((spigotref12_Number.f (⟨#[49, 52]⟩ : ByteArray) a0_6).bind fun t271 => (if (t269 ++ t270).size + t271.size ≤ 9223372036854775807 then (if ((((⟨#[51, 53, 61, 56, 1]⟩ : ByteArray) ++ t266) ++ t267) ++ t268).size + ((t269 ++ t270) ++ t271).size ≤ 9223372036854775807 then ((spigotref12_Number.f (⟨#[49, 53, 49]⟩ : ByteArray) a0_7).bind fun t272 => (if (((((⟨#[51, 53, 61, 56, 1]⟩ : ByteArray) ++ t266) ++ t267) ++ t268) ++ ((t269 ++ t270) ++ t271)).size + t272.size ≤ 9223372036854775807 then ((spigotref12_Number.f (⟨#[49, 48, 51]⟩ : ByteArray) a0_9).bind fun t273 => (if ((((((⟨#[51, 53, 61, 56, 1]⟩ : ByteArray) ++ t266) ++ t267) ++ t268) ++ ((t269 ++ t270) ++ t271)) ++ t272).size + t273.size ≤ 9223372036854775807 then (some (((((((⟨#[51, 53, 61, 56, 1]⟩ : ByteArray) ++ t266) ++ t267) ++ t268) ++ ((t269 ++ t270) ++ t271)) ++ t272) ++ t273)) else (none))) else (none))) else (none)) else (none))) else (none)))) else (none)) = some r := H
        have A7 := Aside0.mk A70
        clear A70
        by_cases c8 : (((⟨#[51, 53, 61, 56, 1]⟩ : ByteArray) ++ t266) ++ t267).size + t268.size ≤ 9223372036854775807
        · rw [if_pos c8] at H
          have c8b0 := eq_true c8
          have c8b1 : decide ((((⟨#[51, 53, 61, 56, 1]⟩ : ByteArray) ++ t266) ++ t267).size + t268.size ≤ 9223372036854775807) = true := decide_eq_true c8
          try have c8b2 : (9223372036854775807 < (((⟨#[51, 53, 61, 56, 1]⟩ : ByteArray) ++ t266) ++ t267).size + t268.size) = False := eq_false (Nat.not_lt.2 c8)
          try (have c8b3 := c8; simp only [ByteArray.size_append, sz_lit, List.length_cons, List.length_nil, Nat.zero_add] at c8b3; have c8b4 := eq_false (Nat.not_lt.2 c8b3))
          replace H := Option.bind_eq_some_iff.mp H
          obtain ⟨t269, A90, H⟩ := H
          replace H : ((spigotref12_Number.f (⟨#[51, 49]⟩ : ByteArray) a0_5).bind fun t270 => (if t269.size + t270.size ≤ 9223372036854775807 then ((spigotref12_Number.f (⟨#[49, 52]⟩ : ByteArray) a0_6).bind fun t271 => (if (t269 ++ t270).size + t271.size ≤ 9223372036854775807 then (if ((((⟨#[51, 53, 61, 56, 1]⟩ : ByteArray) ++ t266) ++ t267) ++ t268).size + ((t269 ++ t270) ++ t271).size ≤ 9223372036854775807 then ((spigotref12_Number.f (⟨#[49, 53, 49]⟩ : ByteArray) a0_7).bind fun t272 => (if (((((⟨#[51, 53, 61, 56, 1]⟩ : ByteArray) ++ t266) ++ t267) ++ t268) ++ ((t269 ++ t270) ++ t271)).size + t272.size ≤ 9223372036854775807 then ((spigotref12_Number.f (⟨#[49, 48, 51]⟩ : ByteArray) a0_9).bind fun t273 => (if ((((((⟨#[51, 53, 61, 56, 1]⟩ : ByteArray) ++ t266) ++ t267) ++ t268) ++ ((t269 ++ t270) ++ t271)) ++ t272).size + t273.size ≤ 9223372036854775807 then (some (((((((⟨#[51, 53, 61, 56, 1]⟩ : ByteArray) ++ t266) ++ t267) ++ t268) ++ ((t269 ++ t270) ++ t271)) ++ t272) ++ t273)) else (none))) else (none))) else (none)) else (none))) else (none))) = some r := H
          have A9 := Aside0.mk A90
          clear A90
          replace H := Option.bind_eq_some_iff.mp H
          obtain ⟨t270, A100, H⟩ := H
          replace H : (if t269.size + t270.size ≤ 9223372036854775807 then ((spigotref12_Number.f (⟨#[49, 52]⟩ : ByteArray) a0_6).bind fun t271 => (if (t269 ++ t270).size + t271.size ≤ 9223372036854775807 then (if ((((⟨#[51, 53, 61, 56, 1]⟩ : ByteArray) ++ t266) ++ t267) ++ t268).size + ((t269 ++ t270) ++ t271).size ≤ 9223372036854775807 then ((spigotref12_Number.f (⟨#[49, 53, 49]⟩ : ByteArray) a0_7).bind fun t272 => (if (((((⟨#[51, 53, 61, 56, 1]⟩ : ByteArray) ++ t266) ++ t267) ++ t268) ++ ((t269 ++ t270) ++ t271)).size + t272.size ≤ 9223372036854775807 then ((spigotref12_Number.f (⟨#[49, 48, 51]⟩ : ByteArray) a0_9).bind fun t273 => (if ((((((⟨#[51, 53, 61, 56, 1]⟩ : ByteArray) ++ t266) ++ t267) ++ t268) ++ ((t269 ++ t270) ++ t271)) ++ t272).size + t273.size ≤ 9223372036854775807 then (some (((((((⟨#[51, 53, 61, 56, 1]⟩ : ByteArray) ++ t266) ++ t267) ++ t268) ++ ((t269 ++ t270) ++ t271)) ++ t272) ++ t273)) else (none))) else (none))) else (none)) else (none))) else (none)) = some r := H
          have A10 := Aside0.mk A100
          clear A100
          by_cases c11 : t269.size + t270.size ≤ 9223372036854775807
          · rw [if_pos c11] at H
            have c11b0 := eq_true c11
            have c11b1 : decide (t269.size + t270.size ≤ 9223372036854775807) = true := decide_eq_true c11
            try have c11b2 : (9223372036854775807 < t269.size + t270.size) = False := eq_false (Nat.not_lt.2 c11)
            try (have c11b3 := c11; simp only [ByteArray.size_append, sz_lit, List.length_cons, List.length_nil, Nat.zero_add] at c11b3; have c11b4 := eq_false (Nat.not_lt.2 c11b3))
            replace H := Option.bind_eq_some_iff.mp H
            obtain ⟨t271, A120, H⟩ := H
            replace H : (if (t269 ++ t270).size + t271.size ≤ 9223372036854775807 then (if ((((⟨#[51, 53, 61, 56, 1]⟩ : ByteArray) ++ t266) ++ t267) ++ t268).size + ((t269 ++ t270) ++ t271).size ≤ 9223372036854775807 then ((spigotref12_Number.f (⟨#[49, 53, 49]⟩ : ByteArray) a0_7).bind fun t272 => (if (((((⟨#[51, 53, 61, 56, 1]⟩ : ByteArray) ++ t266) ++ t267) ++ t268) ++ ((t269 ++ t270) ++ t271)).size + t272.size ≤ 9223372036854775807 then ((spigotref12_Number.f (⟨#[49, 48, 51]⟩ : ByteArray) a0_9).bind fun t273 => (if ((((((⟨#[51, 53, 61, 56, 1]⟩ : ByteArray) ++ t266) ++ t267) ++ t268) ++ ((t269 ++ t270) ++ t271)) ++ t272).size + t273.size ≤ 9223372036854775807 then (some (((((((⟨#[51, 53, 61, 56, 1]⟩ : ByteArray) ++ t266) ++ t267) ++ t268) ++ ((t269 ++ t270) ++ t271)) ++ t272) ++ t273)) else (none))) else (none))) else (none)) else (none)) = some r := H
            have A12 := Aside0.mk A120
            clear A120
            by_cases c13 : (t269 ++ t270).size + t271.size ≤ 9223372036854775807
            · rw [if_pos c13] at H
              have c13b0 := eq_true c13
              have c13b1 : decide ((t269 ++ t270).size + t271.size ≤ 9223372036854775807) = true := decide_eq_true c13
              try have c13b2 : (9223372036854775807 < (t269 ++ t270).size + t271.size) = False := eq_false (Nat.not_lt.2 c13)
              try (have c13b3 := c13; simp only [ByteArray.size_append, sz_lit, List.length_cons, List.length_nil, Nat.zero_add] at c13b3; have c13b4 := eq_false (Nat.not_lt.2 c13b3))
              by_cases c14 : ((((⟨#[51, 53, 61, 56, 1]⟩ : ByteArray) ++ t266) ++ t267) ++ t268).size + ((t269 ++ t270) ++ t271).size ≤ 9223372036854775807
              · rw [if_pos c14] at H
                have c14b0 := eq_true c14
                have c14b1 : decide (((((⟨#[51, 53, 61, 56, 1]⟩ : ByteArray) ++ t266) ++ t267) ++ t268).size + ((t269 ++ t270) ++ t271).size ≤ 9223372036854775807) = true := decide_eq_true c14
                try have c14b2 : (9223372036854775807 < ((((⟨#[51, 53, 61, 56, 1]⟩ : ByteArray) ++ t266) ++ t267) ++ t268).size + ((t269 ++ t270) ++ t271).size) = False := eq_false (Nat.not_lt.2 c14)
                try (have c14b3 := c14; simp only [ByteArray.size_append, sz_lit, List.length_cons, List.length_nil, Nat.zero_add] at c14b3; have c14b4 := eq_false (Nat.not_lt.2 c14b3))
                replace H := Option.bind_eq_some_iff.mp H
                obtain ⟨t272, A150, H⟩ := H
                replace H : (if (((((⟨#[51, 53, 61, 56, 1]⟩ : ByteArray) ++ t266) ++ t267) ++ t268) ++ ((t269 ++ t270) ++ t271)).size + t272.size ≤ 9223372036854775807 then ((spigotref12_Number.f (⟨#[49, 48, 51]⟩ : ByteArray) a0_9).bind fun t273 => (if ((((((⟨#[51, 53, 61, 56, 1]⟩ : ByteArray) ++ t266) ++ t267) ++ t268) ++ ((t269 ++ t270) ++ t271)) ++ t272).size + t273.size ≤ 9223372036854775807 then (some (((((((⟨#[51, 53, 61, 56, 1]⟩ : ByteArray) ++ t266) ++ t267) ++ t268) ++ ((t269 ++ t270) ++ t271)) ++ t272) ++ t273)) else (none))) else (none)) = some r := H
                have A15 := Aside0.mk A150
                clear A150
                by_cases c16 : (((((⟨#[51, 53, 61, 56, 1]⟩ : ByteArray) ++ t266) ++ t267) ++ t268) ++ ((t269 ++ t270) ++ t271)).size + t272.size ≤ 9223372036854775807
                · rw [if_pos c16] at H
                  have c16b0 := eq_true c16
                  have c16b1 : decide ((((((⟨#[51, 53, 61, 56, 1]⟩ : ByteArray) ++ t266) ++ t267) ++ t268) ++ ((t269 ++ t270) ++ t271)).size + t272.size ≤ 9223372036854775807) = true := decide_eq_true c16
                  try have c16b2 : (9223372036854775807 < (((((⟨#[51, 53, 61, 56, 1]⟩ : ByteArray) ++ t266) ++ t267) ++ t268) ++ ((t269 ++ t270) ++ t271)).size + t272.size) = False := eq_false (Nat.not_lt.2 c16)
                  try (have c16b3 := c16; simp only [ByteArray.size_append, sz_lit, List.length_cons, List.length_nil, Nat.zero_add] at c16b3; have c16b4 := eq_false (Nat.not_lt.2 c16b3))
                  replace H := Option.bind_eq_some_iff.mp H
                  obtain ⟨t273, A170, H⟩ := H
                  replace H : (if ((((((⟨#[51, 53, 61, 56, 1]⟩ : ByteArray) ++ t266) ++ t267) ++ t268) ++ ((t269 ++ t270) ++ t271)) ++ t272).size + t273.size ≤ 9223372036854775807 then (some (((((((⟨#[51, 53, 61, 56, 1]⟩ : ByteArray) ++ t266) ++ t267) ++ t268) ++ ((t269 ++ t270) ++ t271)) ++ t272) ++ t273)) else (none)) = some r := H
                  have A17 := Aside0.mk A170
                  clear A170
                  by_cases c18 : ((((((⟨#[51, 53, 61, 56, 1]⟩ : ByteArray) ++ t266) ++ t267) ++ t268) ++ ((t269 ++ t270) ++ t271)) ++ t272).size + t273.size ≤ 9223372036854775807
                  · rw [if_pos c18] at H
                    have c18b0 := eq_true c18
                    have c18b1 : decide (((((((⟨#[51, 53, 61, 56, 1]⟩ : ByteArray) ++ t266) ++ t267) ++ t268) ++ ((t269 ++ t270) ++ t271)) ++ t272).size + t273.size ≤ 9223372036854775807) = true := decide_eq_true c18
                    try have c18b2 : (9223372036854775807 < ((((((⟨#[51, 53, 61, 56, 1]⟩ : ByteArray) ++ t266) ++ t267) ++ t268) ++ ((t269 ++ t270) ++ t271)) ++ t272).size + t273.size) = False := eq_false (Nat.not_lt.2 c18)
                    try (have c18b3 := c18; simp only [ByteArray.size_append, sz_lit, List.length_cons, List.length_nil, Nat.zero_add] at c18b3; have c18b4 := eq_false (Nat.not_lt.2 c18b3))
                    obtain rfl := Option.some.inj H
                    go_enter Tryd.func52, Tryd.ntmps52
                    try go_wp2_with (first | ((with_reducible refine gate_dst (N := 1) rfl ?_); refine box_event ?hg (N := 1) ?hd (cs := #[.int .i64 a0_0, .string a0_1, .string a0_2, .int .i64 a0_3, .int .i64 a0_4, .int .i64 a0_5, .int .i64 a0_6, .int .i64 a0_7, .int .i64 a0_8, .int .i64 a0_9]) (t := 31) ?hr ?_; (case hd => rfl); (case hg => rfl); (case hr => first | (go_simp; done) | (go_simp; rfl)); intro gb265 hg w19 hbox hb; have n0_ := Aside0.mk (below_step (by repeat (first | (with_reducible first | exact HB.out | apply below_alloc | apply pw_below_drewN | apply below_drew1) | exact HB.out)) hb); have n1_ := Aside0.mk (hbox); have n2_ := Aside0.mk ((by rw [hg]; exact (below_size (by repeat (first | (with_reducible first | exact HB.out | apply below_alloc | apply pw_below_drewN | apply below_drew1) | exact HB.out))) : w.heap.size ≤ gb265)); have n3_ := Aside0.mk ((by rw [hg]; exact (below_size (by repeat (first | (with_reducible first | exact HB.out | apply below_alloc | apply pw_below_drewN | apply below_drew1) | exact HB.out))) : w.heap.size ≤ gb265)); clear HB; have HB := n0_; have BK265 := n1_; have GW265 := n2_; have GE265 := n3_; clear n0_ n1_ n2_ n3_; clear hb hbox hg; have hcz20_0 : w19.cell? ⟨gb265, 0, none⟩ = some (.int .i64 a0_0) := (blk_cell BK265.out 0).trans rfl; have hcz20_1 : w19.cell? ⟨gb265, 1, none⟩ = some (.string a0_1) := (blk_cell BK265.out 1).trans rfl; have hcz20_2 : w19.cell? ⟨gb265, 2, none⟩ = some (.string a0_2) := (blk_cell BK265.out 2).trans rfl; have hcz20_3 : w19.cell? ⟨gb265, 3, none⟩ = some (.int .i64 a0_3) := (blk_cell BK265.out 3).trans rfl; have hcz20_4 : w19.cell? ⟨gb265, 4, none⟩ = some (.int .i64 a0_4) := (blk_cell BK265.out 4).trans rfl; have hcz20_5 : w19.cell? ⟨gb265, 5, none⟩ = some (.int .i64 a0_5) := (blk_cell BK265.out 5).trans rfl; have hcz20_6 : w19.cell? ⟨gb265, 6, none⟩ = some (.int .i64 a0_6) := (blk_cell BK265.out 6).trans rfl; have hcz20_7 : w19.cell? ⟨gb265, 7, none⟩ = some (.int .i64 a0_7) := (blk_cell BK265.out 7).trans rfl; have hcz20_8 : w19.cell? ⟨gb265, 8, none⟩ = some (.int .i64 a0_8) := (blk_cell BK265.out 8).trans rfl; have hcz20_9 : w19.cell? ⟨gb265, 9, none⟩ = some (.int .i64 a0_9) := (blk_cell BK265.out 9).trans rfl; have hfz20_0 := blk_frozen BK265.out 0; have hfz20_1 := blk_frozen BK265.out 1; have hfz20_2 := blk_frozen BK265.out 2; have hfz20_3 := blk_frozen BK265.out 3; have hfz20_4 := blk_frozen BK265.out 4; have hfz20_5 := blk_frozen BK265.out 5; have hfz20_6 := blk_frozen BK265.out 6; have hfz20_7 := blk_frozen BK265.out 7; have hfz20_8 := blk_frozen BK265.out 8; have hfz20_9 := blk_frozen BK265.out 9))
                    have n0_ := Aside0.mk (blk_drew BK265.out)
                    have n1_ := Aside0.mk (below_drew1 HB.out)
                    clear BK265
                    clear HB
                    have BK265 := n0_
                    have HB := n1_
                    clear n0_ n1_
                    refine start_ (n := 13) (S := fun w' => w'.cell? ⟨gb265, 0, none⟩ = some (.int .i64 a0_0) ∧ w'.cell? ⟨gb265, 1, none⟩ = some (.string a0_1) ∧ w'.cell? ⟨gb265, 2, none⟩ = some (.string a0_2) ∧ w'.cell? ⟨gb265, 3, none⟩ = some (.int .i64 a0_3) ∧ w'.cell? ⟨gb265, 4, none⟩ = some (.int .i64 a0_4) ∧ w'.cell? ⟨gb265, 5, none⟩ = some (.int .i64 a0_5) ∧ w'.cell? ⟨gb265, 6, none⟩ = some (.int .i64 a0_6) ∧ w'.cell? ⟨gb265, 7, none⟩ = some (.int .i64 a0_7) ∧ w'.cell? ⟨gb265, 8, none⟩ = some (.int .i64 a0_8) ∧ w'.cell? ⟨gb265, 9, none⟩ = some (.int .i64 a0_9)) (ds := []) #[false, false, false, false, false, false, false, false, false, false, false, false, false] (by kernel_rfl) rfl rfl ⟨(blk_cell BK265.out 0).trans rfl, (blk_cell BK265.out 1).trans rfl, (blk_cell BK265.out 2).trans rfl, (blk_cell BK265.out 3).trans rfl, (blk_cell BK265.out 4).trans rfl, (blk_cell BK265.out 5).trans rfl, (blk_cell BK265.out 6).trans rfl, (blk_cell BK265.out 7).trans rfl, (blk_cell BK265.out 8).trans rfl, (blk_cell BK265.out 9).trans rfl⟩ (fun hHeld => ?_); refine with_tabW spigotref13_Form.tab2 spigotref13_Form.bits2 (fun HT_ HW_ => ?_)
                    generalize w19.drew = w21 at BK265 HB hHeld ⊢
                    refine pure_ (i := 0) (N := some 7) (v := ?_) (a' := ?_) #[true, false, false, false, false, false, false, false, false, false, false, false, false] rfl rfl (any_of HT_.out (by kernel_rfl)) (fun _ _ _ h => h) (Or.inl ⟨by rfl, ?_⟩) ?_ ?_
                    rotate_left
                    · intro w'
                      go_simp
                      with_reducible rfl
                    rotate_left
                    · simp only [Act.put, List.setIfInBounds_toArray, List.set_cons_zero, List.set_cons_succ, i64_w, i32_w]
                      rfl
                    refine pure_ (i := 4) (N := some 11) (v := ?_) (a' := ?_) #[true, false, false, false, true, false, false, false, false, false, false, false, false] rfl rfl (any_of HT_.out (by kernel_rfl)) (fun _ _ _ h => h) (Or.inl ⟨by rfl, ?_⟩) ?_ ?_
                    rotate_left
                    · intro w'
                      go_simp
                      with_reducible rfl
                    rotate_left
                    · simp only [Act.put, List.setIfInBounds_toArray, List.set_cons_zero, List.set_cons_succ, i64_w, i32_w]
                      rfl
                    refine pure_ (i := 8) (N := some 15) (v := ?_) (a' := ?_) #[true, false, false, false, true, false, false, false, true, false, false, false, false] rfl rfl (any_of HT_.out (by kernel_rfl)) (fun _ _ _ h => h) (Or.inl ⟨by rfl, ?_⟩) ?_ ?_
                    rotate_left
                    · intro w'
                      go_simp
                      with_reducible rfl
                    rotate_left
                    · simp only [Act.put, List.setIfInBounds_toArray, List.set_cons_zero, List.set_cons_succ, i64_w, i32_w]
                      rfl
                    refine take_ (i := 1) (N := some 8) (v := ?_) (a' := ?_) #[true, true, false, false, true, false, false, false, true, false, false, false, false] rfl rfl (take_ofW HT_.out HW_.out (by kernel_rfl)) (fun _ _ _ h => h) (Or.inl ⟨by rfl, ?_⟩) hHeld ?_ ?_
                    rotate_left
                    · rintro w' ⟨s0, s1, s2, s3, s4, s5, s6, s7, s8, s9⟩
                      go_simp
                      with_reducible rfl
                    rotate_left
                    · simp only [Act.put, List.setIfInBounds_toArray, List.set_cons_zero, List.set_cons_succ, i64_w, i32_w]
                      rfl
                    refine take_ (i := 5) (N := some 12) (v := ?_) (a' := ?_) #[true, true, false, false, true, true, false, false, true, false, false, false, false] rfl rfl (take_ofW HT_.out HW_.out (by kernel_rfl)) (fun _ _ _ h => h) (Or.inl ⟨by rfl, ?_⟩) hHeld ?_ ?_
                    rotate_left
                    · rintro w' ⟨s0, s1, s2, s3, s4, s5, s6, s7, s8, s9⟩
                      go_simp
                      with_reducible rfl
                    rotate_left
                    · simp only [Act.put, List.setIfInBounds_toArray, List.set_cons_zero, List.set_cons_succ, i64_w, i32_w]
                      rfl
                    refine take_ (i := 9) (N := some 16) (v := ?_) (a' := ?_) #[true, true, false, false, true, true, false, false, true, true, false, false, false] rfl rfl (take_ofW HT_.out HW_.out (by kernel_rfl)) (fun _ _ _ h => h) (Or.inl ⟨by rfl, ?_⟩) hHeld ?_ ?_
                    rotate_left
                    · rintro w' ⟨s0, s1, s2, s3, s4, s5, s6, s7, s8, s9⟩
                      go_simp
                      with_reducible rfl
                    rotate_left
                    · simp only [Act.put, List.setIfInBounds_toArray, List.set_cons_zero, List.set_cons_succ, i64_w, i32_w]
                      rfl
                    refine one_ (i := 2) (N := some 9) #[true, true, true, false, true, true, false, false, true, true, false, false, false] rfl rfl (one_of HT_.out (by kernel_rfl)) (by decide) (fun K hK => ?_)
                    refine goes_ Tryd.func75 (by kernel_rfl) rfl #[.string (⟨#[49, 49]⟩ : ByteArray), .string a0_1] (by rfl) rfl rfl (by (try simp only [List.map_toArray, List.map_cons, List.map_nil]); first | done | rfl | (simp only [List.length_drop, List.length_take]; rfl)) ?_
                    with_reducible refine (spigotref12_Put.calls (⟨#[49, 49]⟩ : ByteArray) a0_1 t266 _ A3.out).mono ?_
                    rintro e w' ⟨rfl, ⟨nd, rfl⟩⟩
                    refine ⟨_, rfl, ?_⟩
                    refine hK.out _ _ ⟨(blk_cell BK265.out 0).trans rfl, (blk_cell BK265.out 1).trans rfl, (blk_cell BK265.out 2).trans rfl, (blk_cell BK265.out 3).trans rfl, (blk_cell BK265.out 4).trans rfl, (blk_cell BK265.out 5).trans rfl, (blk_cell BK265.out 6).trans rfl, (blk_cell BK265.out 7).trans rfl, (blk_cell BK265.out 8).trans rfl, (blk_cell BK265.out 9).trans rfl⟩ (fun hHeld => ?_)
                    clear hK K
                    refine norm_ (a' := ?_) ?_ ?_
                    rotate_left
                    · show Act.put _ (some 9) _ = _
                      simp only [Act.put, List.setIfInBounds_toArray, List.set_cons_zero, List.set_cons_succ, i64_w, i32_w]
                      rfl
                    refine pure_ (i := 3) (N := some 10) (v := ?_) (a' := ?_) #[true, true, true, true, true, true, false, false, true, true, false, false, false] rfl rfl (any_of HT_.out (by kernel_rfl)) (fun _ _ _ h => h) (Or.inl ⟨by rfl, ?_⟩) ?_ ?_
                    rotate_left
                    · intro w'
                      go_simp
                      with_reducible rfl
                    rotate_left
                    · simp only [Act.put, List.setIfInBounds_toArray, List.set_cons_zero, List.set_cons_succ, i64_w, i32_w]
                      rfl
                    refine one_ (i := 6) (N := some 13) #[true, true, true, true, true, true, true, false, true, true, false, false, false] rfl rfl (one_of HT_.out (by kernel_rfl)) (by decide) (fun K hK => ?_)
                    refine goes_ Tryd.func75 (by kernel_rfl) rfl #[.string (⟨#[49, 55]⟩ : ByteArray), .string a0_2] (by rfl) rfl rfl (by (try simp only [List.map_toArray, List.map_cons, List.map_nil]); first | done | rfl | (simp only [List.length_drop, List.length_take]; rfl)) ?_
                    with_reducible refine (spigotref12_Put.calls (⟨#[49, 55]⟩ : ByteArray) a0_2 t267 _ A5.out).mono ?_
                    rintro e w' ⟨rfl, ⟨nd, rfl⟩⟩
                    refine ⟨_, rfl, ?_⟩
                    refine hK.out _ _ ⟨(blk_cell BK265.out 0).trans rfl, (blk_cell BK265.out 1).trans rfl, (blk_cell BK265.out 2).trans rfl, (blk_cell BK265.out 3).trans rfl, (blk_cell BK265.out 4).trans rfl, (blk_cell BK265.out 5).trans rfl, (blk_cell BK265.out 6).trans rfl, (blk_cell BK265.out 7).trans rfl, (blk_cell BK265.out 8).trans rfl, (blk_cell BK265.out 9).trans rfl⟩ (fun hHeld => ?_)
                    clear hK K
                    refine norm_ (a' := ?_) ?_ ?_
                    rotate_left
                    · show Act.put _ (some 13) _ = _
                      simp only [Act.put, List.setIfInBounds_toArray, List.set_cons_zero, List.set_cons_succ, i64_w, i32_w]
                      rfl
                    refine pure_ (i := 7) (N := some 14) (v := ?_) (a' := ?_) #[true, true, true, true, true, true, true, true, true, true, false, false, false] rfl rfl (any_of HT_.out (by kernel_rfl)) (fun _ _ _ h => h) (Or.inl ⟨by rfl, ?_⟩) ?_ ?_
                    rotate_left
                    · intro w'
                      go_simp
                      with_reducible rfl
                    rotate_left
                    · simp only [Act.put, List.setIfInBounds_toArray, List.set_cons_zero, List.set_cons_succ, i64_w, i32_w]
                      rfl
                    refine one_ (i := 10) (N := some 17) #[true, true, true, true, true, true, true, true, true, true, true, false, false] rfl rfl (one_of HT_.out (by kernel_rfl)) (by decide) (fun K hK => ?_)
                    refine goes_ Tryd.func76 (by kernel_rfl) rfl #[.string (⟨#[51, 57]⟩ : ByteArray), .int .i64 a0_3] (by rfl) rfl rfl (by (try simp only [List.map_toArray, List.map_cons, List.map_nil]); first | done | rfl | (simp only [List.length_drop, List.length_take]; rfl)) ?_
                    with_reducible refine (spigotref12_Number.calls (⟨#[51, 57]⟩ : ByteArray) a0_3 t268 _ A7.out).mono ?_
                    rintro e w22 ⟨rfl, hb⟩
                    refine ⟨_, rfl, ?_⟩
                    have n0_ := Aside0.mk (blk_below (g := gb265) (o := .cells #[.int .i64 a0_0, .string a0_1, .string a0_2, .int .i64 a0_3, .int .i64 a0_4, .int .i64 a0_5, .int .i64 a0_6, .int .i64 a0_7, .int .i64 a0_8, .int .i64 a0_9] 31 (0, 0)) (by (with_reducible repeat (first | refine blk_drewN ?_ _ | refine blk_drew ?_ | refine blk_alloc ?_ _)); exact BK265.out) hb)
                    have n1_ := Aside0.mk (below_step (by repeat (first | (with_reducible first | exact HB.out | apply below_alloc | apply pw_below_drewN | apply below_drew1 | refine below_set ?_ GE265.out) | exact HB.out)) hb)
                    clear BK265
                    clear HB
                    have BK265 := n0_
                    have HB := n1_
                    clear n0_ n1_
                    (try clear hb)
                    (try clear hb2)
                    (try clear hk)
                    (try clear hi)
                    refine hK.out _ _ ⟨(blk_cell BK265.out 0).trans rfl, (blk_cell BK265.out 1).trans rfl, (blk_cell BK265.out 2).trans rfl, (blk_cell BK265.out 3).trans rfl, (blk_cell BK265.out 4).trans rfl, (blk_cell BK265.out 5).trans rfl, (blk_cell BK265.out 6).trans rfl, (blk_cell BK265.out 7).trans rfl, (blk_cell BK265.out 8).trans rfl, (blk_cell BK265.out 9).trans rfl⟩ (fun hHeld => ?_)
                    clear hK K
                    refine norm_ (a' := ?_) ?_ ?_
                    rotate_left
                    · show Act.put _ (some 17) _ = _
                      simp only [Act.put, List.setIfInBounds_toArray, List.set_cons_zero, List.set_cons_succ, i64_w, i32_w]
                      rfl
                    refine pure_ (i := 11) (N := some 18) (v := ?_) (a' := ?_) #[true, true, true, true, true, true, true, true, true, true, true, true, false] rfl rfl (any_of HT_.out (by kernel_rfl)) (fun _ _ _ h => h) (Or.inl ⟨by rfl, ?_⟩) ?_ ?_
                    rotate_left
                    · intro w'
                      go_simp
                      with_reducible rfl
                    rotate_left
                    · simp only [Act.put, List.setIfInBounds_toArray, List.set_cons_zero, List.set_cons_succ, i64_w, i32_w]
                      rfl
                    refine pure_ (i := 12) (N := some 3) (v := ?_) (a' := ?_) #[true, true, true, true, true, true, true, true, true, true, true, true, true] rfl rfl (any_of HT_.out (by kernel_rfl)) (fun _ _ _ h => h) (Or.inl ⟨by rfl, ?_⟩) ?_ ?_
                    rotate_left
                    · intro w'
                      go_simp
                      with_reducible rfl
                    rotate_left
                    · simp only [Act.put, List.setIfInBounds_toArray, List.set_cons_zero, List.set_cons_succ, i64_w, i32_w]
                      rfl
                    refine done_ (done_of HT_.out (by kernel_rfl)) ?_
                    try go_wp2
                    have n0_ := Aside0.mk (blk_drew BK265.out)
                    have n1_ := Aside0.mk (below_drew1 HB.out)
                    clear BK265
                    clear HB
                    have BK265 := n0_
                    have HB := n1_
                    clear n0_ n1_
                    refine start_ (n := 14) (S := fun w' => w'.cell? ⟨gb265, 0, none⟩ = some (.int .i64 a0_0) ∧ w'.cell? ⟨gb265, 1, none⟩ = some (.string a0_1) ∧ w'.cell? ⟨gb265, 2, none⟩ = some (.string a0_2) ∧ w'.cell? ⟨gb265, 3, none⟩ = some (.int .i64 a0_3) ∧ w'.cell? ⟨gb265, 4, none⟩ = some (.int .i64 a0_4) ∧ w'.cell? ⟨gb265, 5, none⟩ = some (.int .i64 a0_5) ∧ w'.cell? ⟨gb265, 6, none⟩ = some (.int .i64 a0_6) ∧ w'.cell? ⟨gb265, 7, none⟩ = some (.int .i64 a0_7) ∧ w'.cell? ⟨gb265, 8, none⟩ = some (.int .i64 a0_8) ∧ w'.cell? ⟨gb265, 9, none⟩ = some (.int .i64 a0_9)) (ds := []) #[false, false, false, false, false, false, false, false, false, false, false, false, false, false] (by kernel_rfl) rfl rfl ⟨(blk_cell BK265.out 0).trans rfl, (blk_cell BK265.out 1).trans rfl, (blk_cell BK265.out 2).trans rfl, (blk_cell BK265.out 3).trans rfl, (blk_cell BK265.out 4).trans rfl, (blk_cell BK265.out 5).trans rfl, (blk_cell BK265.out 6).trans rfl, (blk_cell BK265.out 7).trans rfl, (blk_cell BK265.out 8).trans rfl, (blk_cell BK265.out 9).trans rfl⟩ (fun hHeld => ?_); refine with_tabW spigotref13_Form.tab3 spigotref13_Form.bits3 (fun HT_ HW_ => ?_)
                    generalize w22.drew = w23 at BK265 HB hHeld ⊢
                    refine pure_ (i := 0) (N := some 19) (v := ?_) (a' := ?_) #[true, false, false, false, false, false, false, false, false, false, false, false, false, false] rfl rfl (any_of HT_.out (by kernel_rfl)) (fun _ _ _ h => h) (Or.inl ⟨by rfl, ?_⟩) ?_ ?_
                    rotate_left
                    · intro w'
                      go_simp
                      with_reducible rfl
                    rotate_left
                    · simp only [Act.put, List.setIfInBounds_toArray, List.set_cons_zero, List.set_cons_succ, i64_w, i32_w]
                      rfl
                    refine pure_ (i := 1) (N := some 20) (v := ?_) (a' := ?_) #[true, true, false, false, false, false, false, false, false, false, false, false, false, false] rfl rfl (any_of HT_.out (by kernel_rfl)) (fun _ _ _ h => h) (Or.inl ⟨by rfl, ?_⟩) ?_ ?_
                    rotate_left
                    · intro w'
                      go_simp
                      with_reducible rfl
                    rotate_left
                    · simp only [Act.put, List.setIfInBounds_toArray, List.set_cons_zero, List.set_cons_succ, i64_w, i32_w]
                      rfl
                    refine pure_ (i := 4) (N := some 23) (v := ?_) (a' := ?_) #[true, true, false, false, true, false, false, false, false, false, false, false, false, false] rfl rfl (any_of HT_.out (by kernel_rfl)) (fun _ _ _ h => h) (Or.inl ⟨by rfl, ?_⟩) ?_ ?_
                    rotate_left
                    · intro w'
                      go_simp
                      with_reducible rfl
                    rotate_left
                    · simp only [Act.put, List.setIfInBounds_toArray, List.set_cons_zero, List.set_cons_succ, i64_w, i32_w]
                      rfl
                    refine pure_ (i := 8) (N := some 27) (v := ?_) (a' := ?_) #[true, true, false, false, true, false, false, false, true, false, false, false, false, false] rfl rfl (any_of HT_.out (by kernel_rfl)) (fun _ _ _ h => h) (Or.inl ⟨by rfl, ?_⟩) ?_ ?_
                    rotate_left
                    · intro w'
                      go_simp
                      with_reducible rfl
                    rotate_left
                    · simp only [Act.put, List.setIfInBounds_toArray, List.set_cons_zero, List.set_cons_succ, i64_w, i32_w]
                      rfl
                    refine take_ (i := 2) (N := some 21) (v := ?_) (a' := ?_) #[true, true, true, false, true, false, false, false, true, false, false, false, false, false] rfl rfl (take_ofW HT_.out HW_.out (by kernel_rfl)) (fun _ _ _ h => h) (Or.inl ⟨by rfl, ?_⟩) hHeld ?_ ?_
                    rotate_left
                    · rintro w' ⟨s0, s1, s2, s3, s4, s5, s6, s7, s8, s9⟩
                      go_simp
                      with_reducible rfl
                    rotate_left
                    · simp only [Act.put, List.setIfInBounds_toArray, List.set_cons_zero, List.set_cons_succ, i64_w, i32_w]
                      rfl
                    refine take_ (i := 5) (N := some 24) (v := ?_) (a' := ?_) #[true, true, true, false, true, true, false, false, true, false, false, false, false, false] rfl rfl (take_ofW HT_.out HW_.out (by kernel_rfl)) (fun _ _ _ h => h) (Or.inl ⟨by rfl, ?_⟩) hHeld ?_ ?_
                    rotate_left
                    · rintro w' ⟨s0, s1, s2, s3, s4, s5, s6, s7, s8, s9⟩
                      go_simp
                      with_reducible rfl
                    rotate_left
                    · simp only [Act.put, List.setIfInBounds_toArray, List.set_cons_zero, List.set_cons_succ, i64_w, i32_w]
                      rfl
                    refine take_ (i := 9) (N := some 28) (v := ?_) (a' := ?_) #[true, true, true, false, true, true, false, false, true, true, false, false, false, false] rfl rfl (take_ofW HT_.out HW_.out (by kernel_rfl)) (fun _ _ _ h => h) (Or.inl ⟨by rfl, ?_⟩) hHeld ?_ ?_
                    rotate_left
                    · rintro w' ⟨s0, s1, s2, s3, s4, s5, s6, s7, s8, s9⟩
                      go_simp
                      with_reducible rfl
                    rotate_left
                    · simp only [Act.put, List.setIfInBounds_toArray, List.set_cons_zero, List.set_cons_succ, i64_w, i32_w]
                      rfl
                    refine one_ (i := 3) (N := some 22) #[true, true, true, true, true, true, false, false, true, true, false, false, false, false] rfl rfl (one_of HT_.out (by kernel_rfl)) (by decide) (fun K hK => ?_)
                    refine goes_ Tryd.func76 (by kernel_rfl) rfl #[.string (⟨#[51, 50]⟩ : ByteArray), .int .i64 a0_4] (by rfl) rfl rfl (by (try simp only [List.map_toArray, List.map_cons, List.map_nil]); first | done | rfl | (simp only [List.length_drop, List.length_take]; rfl)) ?_
                    with_reducible refine (spigotref12_Number.calls (⟨#[51, 50]⟩ : ByteArray) a0_4 t269 _ A9.out).mono ?_
                    rintro e w24 ⟨rfl, hb⟩
                    refine ⟨_, rfl, ?_⟩
                    have n0_ := Aside0.mk (blk_below (g := gb265) (o := .cells #[.int .i64 a0_0, .string a0_1, .string a0_2, .int .i64 a0_3, .int .i64 a0_4, .int .i64 a0_5, .int .i64 a0_6, .int .i64 a0_7, .int .i64 a0_8, .int .i64 a0_9] 31 (0, 0)) (by (with_reducible repeat (first | refine blk_drewN ?_ _ | refine blk_drew ?_ | refine blk_alloc ?_ _)); exact BK265.out) hb)
                    have n1_ := Aside0.mk (below_step (by repeat (first | (with_reducible first | exact HB.out | apply below_alloc | apply pw_below_drewN | apply below_drew1 | refine below_set ?_ GE265.out) | exact HB.out)) hb)
                    clear BK265
                    clear HB
                    have BK265 := n0_
                    have HB := n1_
                    clear n0_ n1_
                    (try clear hb)
                    (try clear hb2)
                    (try clear hk)
                    (try clear hi)
                    refine hK.out _ _ ⟨(blk_cell BK265.out 0).trans rfl, (blk_cell BK265.out 1).trans rfl, (blk_cell BK265.out 2).trans rfl, (blk_cell BK265.out 3).trans rfl, (blk_cell BK265.out 4).trans rfl, (blk_cell BK265.out 5).trans rfl, (blk_cell BK265.out 6).trans rfl, (blk_cell BK265.out 7).trans rfl, (blk_cell BK265.out 8).trans rfl, (blk_cell BK265.out 9).trans rfl⟩ (fun hHeld => ?_)
                    clear hK K
                    refine norm_ (a' := ?_) ?_ ?_
                    rotate_left
                    · show Act.put _ (some 22) _ = _
                      simp only [Act.put, List.setIfInBounds_toArray, List.set_cons_zero, List.set_cons_succ, i64_w, i32_w]
                      rfl
                    refine one_ (i := 6) (N := some 25) #[true, true, true, true, true, true, true, false, true, true, false, false, false, false] rfl rfl (one_of HT_.out (by kernel_rfl)) (by decide) (fun K hK => ?_)
                    refine goes_ Tryd.func76 (by kernel_rfl) rfl #[.string (⟨#[51, 49]⟩ : ByteArray), .int .i64 a0_5] (by rfl) rfl rfl (by (try simp only [List.map_toArray, List.map_cons, List.map_nil]); first | done | rfl | (simp only [List.length_drop, List.length_take]; rfl)) ?_
                    with_reducible refine (spigotref12_Number.calls (⟨#[51, 49]⟩ : ByteArray) a0_5 t270 _ A10.out).mono ?_
                    rintro e w25 ⟨rfl, hb⟩
                    refine ⟨_, rfl, ?_⟩
                    have n0_ := Aside0.mk (blk_below (g := gb265) (o := .cells #[.int .i64 a0_0, .string a0_1, .string a0_2, .int .i64 a0_3, .int .i64 a0_4, .int .i64 a0_5, .int .i64 a0_6, .int .i64 a0_7, .int .i64 a0_8, .int .i64 a0_9] 31 (0, 0)) (by (with_reducible repeat (first | refine blk_drewN ?_ _ | refine blk_drew ?_ | refine blk_alloc ?_ _)); exact BK265.out) hb)
                    have n1_ := Aside0.mk (below_step (by repeat (first | (with_reducible first | exact HB.out | apply below_alloc | apply pw_below_drewN | apply below_drew1 | refine below_set ?_ GE265.out) | exact HB.out)) hb)
                    clear BK265
                    clear HB
                    have BK265 := n0_
                    have HB := n1_
                    clear n0_ n1_
                    (try clear hb)
                    (try clear hb2)
                    (try clear hk)
                    (try clear hi)
                    refine hK.out _ _ ⟨(blk_cell BK265.out 0).trans rfl, (blk_cell BK265.out 1).trans rfl, (blk_cell BK265.out 2).trans rfl, (blk_cell BK265.out 3).trans rfl, (blk_cell BK265.out 4).trans rfl, (blk_cell BK265.out 5).trans rfl, (blk_cell BK265.out 6).trans rfl, (blk_cell BK265.out 7).trans rfl, (blk_cell BK265.out 8).trans rfl, (blk_cell BK265.out 9).trans rfl⟩ (fun hHeld => ?_)
                    clear hK K
                    refine norm_ (a' := ?_) ?_ ?_
                    rotate_left
                    · show Act.put _ (some 25) _ = _
                      simp only [Act.put, List.setIfInBounds_toArray, List.set_cons_zero, List.set_cons_succ, i64_w, i32_w]
                      rfl
                    refine pure_ (i := 7) (N := some 26) (v := ?_) (a' := ?_) #[true, true, true, true, true, true, true, true, true, true, false, false, false, false] rfl rfl (any_of HT_.out (by kernel_rfl)) (fun _ _ _ h => h) (Or.inl ⟨by rfl, ?_⟩) ?_ ?_
                    rotate_left
                    · intro w'
                      go_simp
                      with_reducible rfl
                    rotate_left
                    · simp only [Act.put, List.setIfInBounds_toArray, List.set_cons_zero, List.set_cons_succ, i64_w, i32_w]
                      rfl
                    refine one_ (i := 10) (N := some 29) #[true, true, true, true, true, true, true, true, true, true, true, false, false, false] rfl rfl (one_of HT_.out (by kernel_rfl)) (by decide) (fun K hK => ?_)
                    refine goes_ Tryd.func76 (by kernel_rfl) rfl #[.string (⟨#[49, 52]⟩ : ByteArray), .int .i64 a0_6] (by rfl) rfl rfl (by (try simp only [List.map_toArray, List.map_cons, List.map_nil]); first | done | rfl | (simp only [List.length_drop, List.length_take]; rfl)) ?_
                    with_reducible refine (spigotref12_Number.calls (⟨#[49, 52]⟩ : ByteArray) a0_6 t271 _ A12.out).mono ?_
                    rintro e w26 ⟨rfl, hb⟩
                    refine ⟨_, rfl, ?_⟩
                    have n0_ := Aside0.mk (blk_below (g := gb265) (o := .cells #[.int .i64 a0_0, .string a0_1, .string a0_2, .int .i64 a0_3, .int .i64 a0_4, .int .i64 a0_5, .int .i64 a0_6, .int .i64 a0_7, .int .i64 a0_8, .int .i64 a0_9] 31 (0, 0)) (by (with_reducible repeat (first | refine blk_drewN ?_ _ | refine blk_drew ?_ | refine blk_alloc ?_ _)); exact BK265.out) hb)
                    have n1_ := Aside0.mk (below_step (by repeat (first | (with_reducible first | exact HB.out | apply below_alloc | apply pw_below_drewN | apply below_drew1 | refine below_set ?_ GE265.out) | exact HB.out)) hb)
                    clear BK265
                    clear HB
                    have BK265 := n0_
                    have HB := n1_
                    clear n0_ n1_
                    (try clear hb)
                    (try clear hb2)
                    (try clear hk)
                    (try clear hi)
                    refine hK.out _ _ ⟨(blk_cell BK265.out 0).trans rfl, (blk_cell BK265.out 1).trans rfl, (blk_cell BK265.out 2).trans rfl, (blk_cell BK265.out 3).trans rfl, (blk_cell BK265.out 4).trans rfl, (blk_cell BK265.out 5).trans rfl, (blk_cell BK265.out 6).trans rfl, (blk_cell BK265.out 7).trans rfl, (blk_cell BK265.out 8).trans rfl, (blk_cell BK265.out 9).trans rfl⟩ (fun hHeld => ?_)
                    clear hK K
                    refine norm_ (a' := ?_) ?_ ?_
                    rotate_left
                    · show Act.put _ (some 29) _ = _
                      simp only [Act.put, List.setIfInBounds_toArray, List.set_cons_zero, List.set_cons_succ, i64_w, i32_w]
                      rfl
                    refine pure_ (i := 11) (N := some 30) (v := ?_) (a' := ?_) #[true, true, true, true, true, true, true, true, true, true, true, true, false, false] rfl rfl (any_of HT_.out (by kernel_rfl)) (fun _ _ _ h => h) (Or.inl ⟨by rfl, ?_⟩) ?_ ?_
                    rotate_left
                    · intro w'
                      go_simp
                      with_reducible rfl
                    rotate_left
                    · simp only [Act.put, List.setIfInBounds_toArray, List.set_cons_zero, List.set_cons_succ, i64_w, i32_w]
                      rfl
                    refine pure_ (i := 12) (N := some 31) (v := ?_) (a' := ?_) #[true, true, true, true, true, true, true, true, true, true, true, true, true, false] rfl rfl (any_of HT_.out (by kernel_rfl)) (fun _ _ _ h => h) (Or.inl ⟨by rfl, ?_⟩) ?_ ?_
                    rotate_left
                    · intro w'
                      go_simp
                      with_reducible rfl
                    rotate_left
                    · simp only [Act.put, List.setIfInBounds_toArray, List.set_cons_zero, List.set_cons_succ, i64_w, i32_w]
                      rfl
                    refine pure_ (i := 13) (N := some 3) (v := ?_) (a' := ?_) #[true, true, true, true, true, true, true, true, true, true, true, true, true, true] rfl rfl (any_of HT_.out (by kernel_rfl)) (fun _ _ _ h => h) (Or.inl ⟨by rfl, ?_⟩) ?_ ?_
                    rotate_left
                    · intro w'
                      go_simp
                      with_reducible rfl
                    rotate_left
                    · simp only [Act.put, List.setIfInBounds_toArray, List.set_cons_zero, List.set_cons_succ, i64_w, i32_w]
                      rfl
                    refine done_ (done_of HT_.out (by kernel_rfl)) ?_
                    try go_wp2
                    have n0_ := Aside0.mk (blk_drew BK265.out)
                    have n1_ := Aside0.mk (below_drew1 HB.out)
                    clear BK265
                    clear HB
                    have BK265 := n0_
                    have HB := n1_
                    clear n0_ n1_
                    refine start_ (n := 10) (S := fun w' => w'.cell? ⟨gb265, 0, none⟩ = some (.int .i64 a0_0) ∧ w'.cell? ⟨gb265, 1, none⟩ = some (.string a0_1) ∧ w'.cell? ⟨gb265, 2, none⟩ = some (.string a0_2) ∧ w'.cell? ⟨gb265, 3, none⟩ = some (.int .i64 a0_3) ∧ w'.cell? ⟨gb265, 4, none⟩ = some (.int .i64 a0_4) ∧ w'.cell? ⟨gb265, 5, none⟩ = some (.int .i64 a0_5) ∧ w'.cell? ⟨gb265, 6, none⟩ = some (.int .i64 a0_6) ∧ w'.cell? ⟨gb265, 7, none⟩ = some (.int .i64 a0_7) ∧ w'.cell? ⟨gb265, 8, none⟩ = some (.int .i64 a0_8) ∧ w'.cell? ⟨gb265, 9, none⟩ = some (.int .i64 a0_9)) (ds := []) #[false, false, false, false, false, false, false, false, false, false] (by kernel_rfl) rfl rfl ⟨(blk_cell BK265.out 0).trans rfl, (blk_cell BK265.out 1).trans rfl, (blk_cell BK265.out 2).trans rfl, (blk_cell BK265.out 3).trans rfl, (blk_cell BK265.out 4).trans rfl, (blk_cell BK265.out 5).trans rfl, (blk_cell BK265.out 6).trans rfl, (blk_cell BK265.out 7).trans rfl, (blk_cell BK265.out 8).trans rfl, (blk_cell BK265.out 9).trans rfl⟩ (fun hHeld => ?_); refine with_tabW spigotref13_Form.tab4 spigotref13_Form.bits4 (fun HT_ HW_ => ?_)
                    generalize w26.drew = w27 at BK265 HB hHeld ⊢
                    refine pure_ (i := 0) (N := some 32) (v := ?_) (a' := ?_) #[true, false, false, false, false, false, false, false, false, false] rfl rfl (any_of HT_.out (by kernel_rfl)) (fun _ _ _ h => h) (Or.inl ⟨by rfl, ?_⟩) ?_ ?_
                    rotate_left
                    · intro w'
                      go_simp
                      with_reducible rfl
                    rotate_left
                    · simp only [Act.put, List.setIfInBounds_toArray, List.set_cons_zero, List.set_cons_succ, i64_w, i32_w]
                      rfl
                    refine pure_ (i := 1) (N := some 33) (v := ?_) (a' := ?_) #[true, true, false, false, false, false, false, false, false, false] rfl rfl (any_of HT_.out (by kernel_rfl)) (fun _ _ _ h => h) (Or.inl ⟨by rfl, ?_⟩) ?_ ?_
                    rotate_left
                    · intro w'
                      go_simp
                      with_reducible rfl
                    rotate_left
                    · simp only [Act.put, List.setIfInBounds_toArray, List.set_cons_zero, List.set_cons_succ, i64_w, i32_w]
                      rfl
                    refine pure_ (i := 5) (N := some 37) (v := ?_) (a' := ?_) #[true, true, false, false, false, true, false, false, false, false] rfl rfl (any_of HT_.out (by kernel_rfl)) (fun _ _ _ h => h) (Or.inl ⟨by rfl, ?_⟩) ?_ ?_
                    rotate_left
                    · intro w'
                      go_simp
                      with_reducible rfl
                    rotate_left
                    · simp only [Act.put, List.setIfInBounds_toArray, List.set_cons_zero, List.set_cons_succ, i64_w, i32_w]
                      rfl
                    refine take_ (i := 2) (N := some 34) (v := ?_) (a' := ?_) #[true, true, true, false, false, true, false, false, false, false] rfl rfl (take_ofW HT_.out HW_.out (by kernel_rfl)) (fun _ _ _ h => h) (Or.inl ⟨by rfl, ?_⟩) hHeld ?_ ?_
                    rotate_left
                    · rintro w' ⟨s0, s1, s2, s3, s4, s5, s6, s7, s8, s9⟩
                      go_simp
                      with_reducible rfl
                    rotate_left
                    · simp only [Act.put, List.setIfInBounds_toArray, List.set_cons_zero, List.set_cons_succ, i64_w, i32_w]
                      rfl
                    refine take_ (i := 6) (N := some 38) (v := ?_) (a' := ?_) #[true, true, true, false, false, true, true, false, false, false] rfl rfl (take_ofW HT_.out HW_.out (by kernel_rfl)) (fun _ _ _ h => h) (Or.inl ⟨by rfl, ?_⟩) hHeld ?_ ?_
                    rotate_left
                    · rintro w' ⟨s0, s1, s2, s3, s4, s5, s6, s7, s8, s9⟩
                      go_simp
                      with_reducible rfl
                    rotate_left
                    · simp only [Act.put, List.setIfInBounds_toArray, List.set_cons_zero, List.set_cons_succ, i64_w, i32_w]
                      rfl
                    refine one_ (i := 3) (N := some 35) #[true, true, true, true, false, true, true, false, false, false] rfl rfl (one_of HT_.out (by kernel_rfl)) (by decide) (fun K hK => ?_)
                    refine goes_ Tryd.func76 (by kernel_rfl) rfl #[.string (⟨#[49, 53, 49]⟩ : ByteArray), .int .i64 a0_7] (by rfl) rfl rfl (by (try simp only [List.map_toArray, List.map_cons, List.map_nil]); first | done | rfl | (simp only [List.length_drop, List.length_take]; rfl)) ?_
                    with_reducible refine (spigotref12_Number.calls (⟨#[49, 53, 49]⟩ : ByteArray) a0_7 t272 _ A15.out).mono ?_
                    rintro e w28 ⟨rfl, hb⟩
                    refine ⟨_, rfl, ?_⟩
                    have n0_ := Aside0.mk (blk_below (g := gb265) (o := .cells #[.int .i64 a0_0, .string a0_1, .string a0_2, .int .i64 a0_3, .int .i64 a0_4, .int .i64 a0_5, .int .i64 a0_6, .int .i64 a0_7, .int .i64 a0_8, .int .i64 a0_9] 31 (0, 0)) (by (with_reducible repeat (first | refine blk_drewN ?_ _ | refine blk_drew ?_ | refine blk_alloc ?_ _)); exact BK265.out) hb)
                    have n1_ := Aside0.mk (below_step (by repeat (first | (with_reducible first | exact HB.out | apply below_alloc | apply pw_below_drewN | apply below_drew1 | refine below_set ?_ GE265.out) | exact HB.out)) hb)
                    clear BK265
                    clear HB
                    have BK265 := n0_
                    have HB := n1_
                    clear n0_ n1_
                    (try clear hb)
                    (try clear hb2)
                    (try clear hk)
                    (try clear hi)
                    refine hK.out _ _ ⟨(blk_cell BK265.out 0).trans rfl, (blk_cell BK265.out 1).trans rfl, (blk_cell BK265.out 2).trans rfl, (blk_cell BK265.out 3).trans rfl, (blk_cell BK265.out 4).trans rfl, (blk_cell BK265.out 5).trans rfl, (blk_cell BK265.out 6).trans rfl, (blk_cell BK265.out 7).trans rfl, (blk_cell BK265.out 8).trans rfl, (blk_cell BK265.out 9).trans rfl⟩ (fun hHeld => ?_)
                    clear hK K
                    refine norm_ (a' := ?_) ?_ ?_
                    rotate_left
                    · show Act.put _ (some 35) _ = _
                      simp only [Act.put, List.setIfInBounds_toArray, List.set_cons_zero, List.set_cons_succ, i64_w, i32_w]
                      rfl
                    refine pure_ (i := 4) (N := some 36) (v := ?_) (a' := ?_) #[true, true, true, true, true, true, true, false, false, false] rfl rfl (any_of HT_.out (by kernel_rfl)) (fun _ _ _ h => h) (Or.inl ⟨by rfl, ?_⟩) ?_ ?_
                    rotate_left
                    · intro w'
                      go_simp
                      with_reducible rfl
                    rotate_left
                    · simp only [Act.put, List.setIfInBounds_toArray, List.set_cons_zero, List.set_cons_succ, i64_w, i32_w]
                      rfl
                    refine one_ (i := 7) (N := some 39) #[true, true, true, true, true, true, true, true, false, false] rfl rfl (one_of HT_.out (by kernel_rfl)) (by decide) (fun K hK => ?_)
                    refine goes_ Tryd.func76 (by kernel_rfl) rfl #[.string (⟨#[49, 48, 51]⟩ : ByteArray), .int .i64 a0_9] (by rfl) rfl rfl (by (try simp only [List.map_toArray, List.map_cons, List.map_nil]); first | done | rfl | (simp only [List.length_drop, List.length_take]; rfl)) ?_
                    with_reducible refine (spigotref12_Number.calls (⟨#[49, 48, 51]⟩ : ByteArray) a0_9 t273 _ A17.out).mono ?_
                    rintro e w29 ⟨rfl, hb⟩
                    refine ⟨_, rfl, ?_⟩
                    have n0_ := Aside0.mk (blk_below (g := gb265) (o := .cells #[.int .i64 a0_0, .string a0_1, .string a0_2, .int .i64 a0_3, .int .i64 a0_4, .int .i64 a0_5, .int .i64 a0_6, .int .i64 a0_7, .int .i64 a0_8, .int .i64 a0_9] 31 (0, 0)) (by (with_reducible repeat (first | refine blk_drewN ?_ _ | refine blk_drew ?_ | refine blk_alloc ?_ _)); exact BK265.out) hb)
                    have n1_ := Aside0.mk (below_step (by repeat (first | (with_reducible first | exact HB.out | apply below_alloc | apply pw_below_drewN | apply below_drew1 | refine below_set ?_ GE265.out) | exact HB.out)) hb)
                    clear BK265
                    clear HB
                    have BK265 := n0_
                    have HB := n1_
                    clear n0_ n1_
                    (try clear hb)
                    (try clear hb2)
                    (try clear hk)
                    (try clear hi)
                    refine hK.out _ _ ⟨(blk_cell BK265.out 0).trans rfl, (blk_cell BK265.out 1).trans rfl, (blk_cell BK265.out 2).trans rfl, (blk_cell BK265.out 3).trans rfl, (blk_cell BK265.out 4).trans rfl, (blk_cell BK265.out 5).trans rfl, (blk_cell BK265.out 6).trans rfl, (blk_cell BK265.out 7).trans rfl, (blk_cell BK265.out 8).trans rfl, (blk_cell BK265.out 9).trans rfl⟩ (fun hHeld => ?_)
                    clear hK K
                    refine norm_ (a' := ?_) ?_ ?_
                    rotate_left
                    · show Act.put _ (some 39) _ = _
                      simp only [Act.put, List.setIfInBounds_toArray, List.set_cons_zero, List.set_cons_succ, i64_w, i32_w]
                      rfl
                    refine pure_ (i := 8) (N := some 40) (v := ?_) (a' := ?_) #[true, true, true, true, true, true, true, true, true, false] rfl rfl (any_of HT_.out (by kernel_rfl)) (fun _ _ _ h => h) (Or.inl ⟨by rfl, ?_⟩) ?_ ?_
                    rotate_left
                    · intro w'
                      go_simp
                      with_reducible rfl
                    rotate_left
                    · simp only [Act.put, List.setIfInBounds_toArray, List.set_cons_zero, List.set_cons_succ, i64_w, i32_w]
                      rfl
                    refine pure_ (i := 9) (N := some 2) (v := ?_) (a' := ?_) #[true, true, true, true, true, true, true, true, true, true] rfl rfl (any_of HT_.out (by kernel_rfl)) (fun _ _ _ h => h) (Or.inl ⟨by rfl, ?_⟩) ?_ ?_
                    rotate_left
                    · intro w'
                      go_simp
                      with_reducible rfl
                    rotate_left
                    · simp only [Act.put, List.setIfInBounds_toArray, List.set_cons_zero, List.set_cons_succ, i64_w, i32_w]
                      rfl
                    refine done_ (done_of HT_.out (by kernel_rfl)) ?_
                    try go_wp2
                    go_ret
                    exact ⟨by first | rfl | (simp [errW_none, errW_some] <;> rfl) | (simp [*, errW_none, errW_some] <;> rfl), by repeat (first | (with_reducible first | exact HB.out | apply below_alloc | apply pw_below_drewN | apply below_drew1 | refine below_set ?_ GE265.out) | exact HB.out)⟩
                  · rw [if_neg c18] at H
                    exact absurd H (by simp)
                · rw [if_neg c16] at H
                  exact absurd H (by simp)
              · rw [if_neg c14] at H
                exact absurd H (by simp)
            · rw [if_neg c13] at H
              exact absurd H (by simp)
          · rw [if_neg c11] at H
            exact absurd H (by simp)
        · rw [if_neg c8] at H
          exact absurd H (by simp)
      · rw [if_neg c6] at H
        exact absurd H (by simp)
    · rw [if_neg c4] at H
      exact absurd H (by simp)
  · rw [if_neg c2] at H
    have c2b0 : (a0_0 == 1) = false := beq_eq_false_iff_ne.mpr c2
    have c2b1 : (a0_0 != 1) = true := bne_iff_ne.mpr c2
    by_cases c30 : a0_0 = 2
    · rw [if_pos c30] at H
      have c30b0 : (a0_0 == 2) = true := beq_iff_eq.mpr c30
      have c30b1 : (a0_0 != 2) = false := bne_eq_false_iff_eq.mpr c30
      clear c30
      replace H := Option.bind_eq_some_iff.mp H
      obtain ⟨t274, A310, H⟩ := H
      replace H : (if 5 + t274.size ≤ 9223372036854775807 then ((spigotref12_Number.f (⟨#[51, 57]⟩ : ByteArray) a0_3).bind fun t275 => (if ((⟨#[51, 53, 61, 57, 1]⟩ : ByteArray) ++ t274).size + t275.size ≤ 9223372036854775807 then ((spigotref12_Number.f (⟨#[49, 48, 51]⟩ : ByteArray) a0_9).bind fun t276 => (if (((⟨#[51, 53, 61, 57, 1]⟩ : ByteArray) ++ t274) ++ t275).size + t276.size ≤ 9223372036854775807 then (some ((((⟨#[51, 53, 61, 57, 1]⟩ : ByteArray) ++ t274) ++ t275) ++ t276)) else (none))) else (none))) else (none)) = some r := H
      have A31 := Aside0.mk A310
      clear A310
      by_cases c32 : 5 + t274.size ≤ 9223372036854775807
      · rw [if_pos c32] at H
        have c32b0 := eq_true c32
        have c32b1 : decide (5 + t274.size ≤ 9223372036854775807) = true := decide_eq_true c32
        try have c32b2 : (9223372036854775807 < 5 + t274.size) = False := eq_false (Nat.not_lt.2 c32)
        try (have c32b3 := c32; simp only [ByteArray.size_append, sz_lit, List.length_cons, List.length_nil, Nat.zero_add] at c32b3; have c32b4 := eq_false (Nat.not_lt.2 c32b3))
        replace H := Option.bind_eq_some_iff.mp H
        obtain ⟨t275, A330, H⟩ := H
        replace H : (if ((⟨#[51, 53, 61, 57, 1]⟩ : ByteArray) ++ t274).size + t275.size ≤ 9223372036854775807 then ((spigotref12_Number.f (⟨#[49, 48, 51]⟩ : ByteArray) a0_9).bind fun t276 => (if (((⟨#[51, 53, 61, 57, 1]⟩ : ByteArray) ++ t274) ++ t275).size + t276.size ≤ 9223372036854775807 then (some ((((⟨#[51, 53, 61, 57, 1]⟩ : ByteArray) ++ t274) ++ t275) ++ t276)) else (none))) else (none)) = some r := H
        have A33 := Aside0.mk A330
        clear A330
        by_cases c34 : ((⟨#[51, 53, 61, 57, 1]⟩ : ByteArray) ++ t274).size + t275.size ≤ 9223372036854775807
        · rw [if_pos c34] at H
          have c34b0 := eq_true c34
          have c34b1 : decide (((⟨#[51, 53, 61, 57, 1]⟩ : ByteArray) ++ t274).size + t275.size ≤ 9223372036854775807) = true := decide_eq_true c34
          try have c34b2 : (9223372036854775807 < ((⟨#[51, 53, 61, 57, 1]⟩ : ByteArray) ++ t274).size + t275.size) = False := eq_false (Nat.not_lt.2 c34)
          try (have c34b3 := c34; simp only [ByteArray.size_append, sz_lit, List.length_cons, List.length_nil, Nat.zero_add] at c34b3; have c34b4 := eq_false (Nat.not_lt.2 c34b3))
          replace H := Option.bind_eq_some_iff.mp H
          obtain ⟨t276, A350, H⟩ := H
          replace H : (if (((⟨#[51, 53, 61, 57, 1]⟩ : ByteArray) ++ t274) ++ t275).size + t276.size ≤ 9223372036854775807 then (some ((((⟨#[51, 53, 61, 57, 1]⟩ : ByteArray) ++ t274) ++ t275) ++ t276)) else (none)) = some r := H
          have A35 := Aside0.mk A350
          clear A350
          by_cases c36 : (((⟨#[51, 53, 61, 57, 1]⟩ : ByteArray) ++ t274) ++ t275).size + t276.size ≤ 9223372036854775807
          · rw [if_pos c36] at H
            have c36b0 := eq_true c36
            have c36b1 : decide ((((⟨#[51, 53, 61, 57, 1]⟩ : ByteArray) ++ t274) ++ t275).size + t276.size ≤ 9223372036854775807) = true := decide_eq_true c36
            try have c36b2 : (9223372036854775807 < (((⟨#[51, 53, 61, 57, 1]⟩ : ByteArray) ++ t274) ++ t275).size + t276.size) = False := eq_false (Nat.not_lt.2 c36)
            try (have c36b3 := c36; simp only [ByteArray.size_append, sz_lit, List.length_cons, List.length_nil, Nat.zero_add] at c36b3; have c36b4 := eq_false (Nat.not_lt.2 c36b3))
            obtain rfl := Option.some.inj H
            go_enter Tryd.func52, Tryd.ntmps52
            try go_wp2_with (first | ((with_reducible refine gate_dst (N := 1) rfl ?_); refine box_event ?hg (N := 1) ?hd (cs := #[.int .i64 a0_0, .string a0_1, .string a0_2, .int .i64 a0_3, .int .i64 a0_4, .int .i64 a0_5, .int .i64 a0_6, .int .i64 a0_7, .int .i64 a0_8, .int .i64 a0_9]) (t := 31) ?hr ?_; (case hd => rfl); (case hg => rfl); (case hr => first | (go_simp; done) | (go_simp; rfl)); intro gb265 hg w37 hbox hb; have n0_ := Aside0.mk (below_step (by repeat (first | (with_reducible first | exact HB.out | apply below_alloc | apply pw_below_drewN | apply below_drew1) | exact HB.out)) hb); have n1_ := Aside0.mk (hbox); have n2_ := Aside0.mk ((by rw [hg]; exact (below_size (by repeat (first | (with_reducible first | exact HB.out | apply below_alloc | apply pw_below_drewN | apply below_drew1) | exact HB.out))) : w.heap.size ≤ gb265)); have n3_ := Aside0.mk ((by rw [hg]; exact (below_size (by repeat (first | (with_reducible first | exact HB.out | apply below_alloc | apply pw_below_drewN | apply below_drew1) | exact HB.out))) : w.heap.size ≤ gb265)); clear HB; have HB := n0_; have BK265 := n1_; have GW265 := n2_; have GE265 := n3_; clear n0_ n1_ n2_ n3_; clear hb hbox hg; have hcz38_0 : w37.cell? ⟨gb265, 0, none⟩ = some (.int .i64 a0_0) := (blk_cell BK265.out 0).trans rfl; have hcz38_1 : w37.cell? ⟨gb265, 1, none⟩ = some (.string a0_1) := (blk_cell BK265.out 1).trans rfl; have hcz38_2 : w37.cell? ⟨gb265, 2, none⟩ = some (.string a0_2) := (blk_cell BK265.out 2).trans rfl; have hcz38_3 : w37.cell? ⟨gb265, 3, none⟩ = some (.int .i64 a0_3) := (blk_cell BK265.out 3).trans rfl; have hcz38_4 : w37.cell? ⟨gb265, 4, none⟩ = some (.int .i64 a0_4) := (blk_cell BK265.out 4).trans rfl; have hcz38_5 : w37.cell? ⟨gb265, 5, none⟩ = some (.int .i64 a0_5) := (blk_cell BK265.out 5).trans rfl; have hcz38_6 : w37.cell? ⟨gb265, 6, none⟩ = some (.int .i64 a0_6) := (blk_cell BK265.out 6).trans rfl; have hcz38_7 : w37.cell? ⟨gb265, 7, none⟩ = some (.int .i64 a0_7) := (blk_cell BK265.out 7).trans rfl; have hcz38_8 : w37.cell? ⟨gb265, 8, none⟩ = some (.int .i64 a0_8) := (blk_cell BK265.out 8).trans rfl; have hcz38_9 : w37.cell? ⟨gb265, 9, none⟩ = some (.int .i64 a0_9) := (blk_cell BK265.out 9).trans rfl; have hfz38_0 := blk_frozen BK265.out 0; have hfz38_1 := blk_frozen BK265.out 1; have hfz38_2 := blk_frozen BK265.out 2; have hfz38_3 := blk_frozen BK265.out 3; have hfz38_4 := blk_frozen BK265.out 4; have hfz38_5 := blk_frozen BK265.out 5; have hfz38_6 := blk_frozen BK265.out 6; have hfz38_7 := blk_frozen BK265.out 7; have hfz38_8 := blk_frozen BK265.out 8; have hfz38_9 := blk_frozen BK265.out 9))
            have n0_ := Aside0.mk (blk_drew BK265.out)
            have n1_ := Aside0.mk (below_drew1 HB.out)
            clear BK265
            clear HB
            have BK265 := n0_
            have HB := n1_
            clear n0_ n1_
            refine start_ (n := 13) (S := fun w' => w'.cell? ⟨gb265, 0, none⟩ = some (.int .i64 a0_0) ∧ w'.cell? ⟨gb265, 1, none⟩ = some (.string a0_1) ∧ w'.cell? ⟨gb265, 2, none⟩ = some (.string a0_2) ∧ w'.cell? ⟨gb265, 3, none⟩ = some (.int .i64 a0_3) ∧ w'.cell? ⟨gb265, 4, none⟩ = some (.int .i64 a0_4) ∧ w'.cell? ⟨gb265, 5, none⟩ = some (.int .i64 a0_5) ∧ w'.cell? ⟨gb265, 6, none⟩ = some (.int .i64 a0_6) ∧ w'.cell? ⟨gb265, 7, none⟩ = some (.int .i64 a0_7) ∧ w'.cell? ⟨gb265, 8, none⟩ = some (.int .i64 a0_8) ∧ w'.cell? ⟨gb265, 9, none⟩ = some (.int .i64 a0_9)) (ds := []) #[false, false, false, false, false, false, false, false, false, false, false, false, false] (by kernel_rfl) rfl rfl ⟨(blk_cell BK265.out 0).trans rfl, (blk_cell BK265.out 1).trans rfl, (blk_cell BK265.out 2).trans rfl, (blk_cell BK265.out 3).trans rfl, (blk_cell BK265.out 4).trans rfl, (blk_cell BK265.out 5).trans rfl, (blk_cell BK265.out 6).trans rfl, (blk_cell BK265.out 7).trans rfl, (blk_cell BK265.out 8).trans rfl, (blk_cell BK265.out 9).trans rfl⟩ (fun hHeld => ?_); refine with_tabW spigotref13_Form.tab6 spigotref13_Form.bits6 (fun HT_ HW_ => ?_)
            generalize w37.drew = w39 at BK265 HB hHeld ⊢
            refine pure_ (i := 0) (N := some 44) (v := ?_) (a' := ?_) #[true, false, false, false, false, false, false, false, false, false, false, false, false] rfl rfl (any_of HT_.out (by kernel_rfl)) (fun _ _ _ h => h) (Or.inl ⟨by rfl, ?_⟩) ?_ ?_
            rotate_left
            · intro w'
              go_simp
              with_reducible rfl
            rotate_left
            · simp only [Act.put, List.setIfInBounds_toArray, List.set_cons_zero, List.set_cons_succ, i64_w, i32_w]
              rfl
            refine pure_ (i := 4) (N := some 48) (v := ?_) (a' := ?_) #[true, false, false, false, true, false, false, false, false, false, false, false, false] rfl rfl (any_of HT_.out (by kernel_rfl)) (fun _ _ _ h => h) (Or.inl ⟨by rfl, ?_⟩) ?_ ?_
            rotate_left
            · intro w'
              go_simp
              with_reducible rfl
            rotate_left
            · simp only [Act.put, List.setIfInBounds_toArray, List.set_cons_zero, List.set_cons_succ, i64_w, i32_w]
              rfl
            refine pure_ (i := 8) (N := some 52) (v := ?_) (a' := ?_) #[true, false, false, false, true, false, false, false, true, false, false, false, false] rfl rfl (any_of HT_.out (by kernel_rfl)) (fun _ _ _ h => h) (Or.inl ⟨by rfl, ?_⟩) ?_ ?_
            rotate_left
            · intro w'
              go_simp
              with_reducible rfl
            rotate_left
            · simp only [Act.put, List.setIfInBounds_toArray, List.set_cons_zero, List.set_cons_succ, i64_w, i32_w]
              rfl
            refine take_ (i := 1) (N := some 45) (v := ?_) (a' := ?_) #[true, true, false, false, true, false, false, false, true, false, false, false, false] rfl rfl (take_ofW HT_.out HW_.out (by kernel_rfl)) (fun _ _ _ h => h) (Or.inl ⟨by rfl, ?_⟩) hHeld ?_ ?_
            rotate_left
            · rintro w' ⟨s0, s1, s2, s3, s4, s5, s6, s7, s8, s9⟩
              go_simp
              with_reducible rfl
            rotate_left
            · simp only [Act.put, List.setIfInBounds_toArray, List.set_cons_zero, List.set_cons_succ, i64_w, i32_w]
              rfl
            refine take_ (i := 5) (N := some 49) (v := ?_) (a' := ?_) #[true, true, false, false, true, true, false, false, true, false, false, false, false] rfl rfl (take_ofW HT_.out HW_.out (by kernel_rfl)) (fun _ _ _ h => h) (Or.inl ⟨by rfl, ?_⟩) hHeld ?_ ?_
            rotate_left
            · rintro w' ⟨s0, s1, s2, s3, s4, s5, s6, s7, s8, s9⟩
              go_simp
              with_reducible rfl
            rotate_left
            · simp only [Act.put, List.setIfInBounds_toArray, List.set_cons_zero, List.set_cons_succ, i64_w, i32_w]
              rfl
            refine take_ (i := 9) (N := some 53) (v := ?_) (a' := ?_) #[true, true, false, false, true, true, false, false, true, true, false, false, false] rfl rfl (take_ofW HT_.out HW_.out (by kernel_rfl)) (fun _ _ _ h => h) (Or.inl ⟨by rfl, ?_⟩) hHeld ?_ ?_
            rotate_left
            · rintro w' ⟨s0, s1, s2, s3, s4, s5, s6, s7, s8, s9⟩
              go_simp
              with_reducible rfl
            rotate_left
            · simp only [Act.put, List.setIfInBounds_toArray, List.set_cons_zero, List.set_cons_succ, i64_w, i32_w]
              rfl
            refine one_ (i := 2) (N := some 46) #[true, true, true, false, true, true, false, false, true, true, false, false, false] rfl rfl (one_of HT_.out (by kernel_rfl)) (by decide) (fun K hK => ?_)
            refine goes_ Tryd.func75 (by kernel_rfl) rfl #[.string (⟨#[49, 49]⟩ : ByteArray), .string a0_1] (by rfl) rfl rfl (by (try simp only [List.map_toArray, List.map_cons, List.map_nil]); first | done | rfl | (simp only [List.length_drop, List.length_take]; rfl)) ?_
            with_reducible refine (spigotref12_Put.calls (⟨#[49, 49]⟩ : ByteArray) a0_1 t274 _ A31.out).mono ?_
            rintro e w' ⟨rfl, ⟨nd, rfl⟩⟩
            refine ⟨_, rfl, ?_⟩
            refine hK.out _ _ ⟨(blk_cell BK265.out 0).trans rfl, (blk_cell BK265.out 1).trans rfl, (blk_cell BK265.out 2).trans rfl, (blk_cell BK265.out 3).trans rfl, (blk_cell BK265.out 4).trans rfl, (blk_cell BK265.out 5).trans rfl, (blk_cell BK265.out 6).trans rfl, (blk_cell BK265.out 7).trans rfl, (blk_cell BK265.out 8).trans rfl, (blk_cell BK265.out 9).trans rfl⟩ (fun hHeld => ?_)
            clear hK K
            refine norm_ (a' := ?_) ?_ ?_
            rotate_left
            · show Act.put _ (some 46) _ = _
              simp only [Act.put, List.setIfInBounds_toArray, List.set_cons_zero, List.set_cons_succ, i64_w, i32_w]
              rfl
            refine pure_ (i := 3) (N := some 47) (v := ?_) (a' := ?_) #[true, true, true, true, true, true, false, false, true, true, false, false, false] rfl rfl (any_of HT_.out (by kernel_rfl)) (fun _ _ _ h => h) (Or.inl ⟨by rfl, ?_⟩) ?_ ?_
            rotate_left
            · intro w'
              go_simp
              with_reducible rfl
            rotate_left
            · simp only [Act.put, List.setIfInBounds_toArray, List.set_cons_zero, List.set_cons_succ, i64_w, i32_w]
              rfl
            refine one_ (i := 6) (N := some 50) #[true, true, true, true, true, true, true, false, true, true, false, false, false] rfl rfl (one_of HT_.out (by kernel_rfl)) (by decide) (fun K hK => ?_)
            refine goes_ Tryd.func76 (by kernel_rfl) rfl #[.string (⟨#[51, 57]⟩ : ByteArray), .int .i64 a0_3] (by rfl) rfl rfl (by (try simp only [List.map_toArray, List.map_cons, List.map_nil]); first | done | rfl | (simp only [List.length_drop, List.length_take]; rfl)) ?_
            with_reducible refine (spigotref12_Number.calls (⟨#[51, 57]⟩ : ByteArray) a0_3 t275 _ A33.out).mono ?_
            rintro e w40 ⟨rfl, hb⟩
            refine ⟨_, rfl, ?_⟩
            have n0_ := Aside0.mk (blk_below (g := gb265) (o := .cells #[.int .i64 a0_0, .string a0_1, .string a0_2, .int .i64 a0_3, .int .i64 a0_4, .int .i64 a0_5, .int .i64 a0_6, .int .i64 a0_7, .int .i64 a0_8, .int .i64 a0_9] 31 (0, 0)) (by (with_reducible repeat (first | refine blk_drewN ?_ _ | refine blk_drew ?_ | refine blk_alloc ?_ _)); exact BK265.out) hb)
            have n1_ := Aside0.mk (below_step (by repeat (first | (with_reducible first | exact HB.out | apply below_alloc | apply pw_below_drewN | apply below_drew1 | refine below_set ?_ GE265.out) | exact HB.out)) hb)
            clear BK265
            clear HB
            have BK265 := n0_
            have HB := n1_
            clear n0_ n1_
            (try clear hb)
            (try clear hb2)
            (try clear hk)
            (try clear hi)
            refine hK.out _ _ ⟨(blk_cell BK265.out 0).trans rfl, (blk_cell BK265.out 1).trans rfl, (blk_cell BK265.out 2).trans rfl, (blk_cell BK265.out 3).trans rfl, (blk_cell BK265.out 4).trans rfl, (blk_cell BK265.out 5).trans rfl, (blk_cell BK265.out 6).trans rfl, (blk_cell BK265.out 7).trans rfl, (blk_cell BK265.out 8).trans rfl, (blk_cell BK265.out 9).trans rfl⟩ (fun hHeld => ?_)
            clear hK K
            refine norm_ (a' := ?_) ?_ ?_
            rotate_left
            · show Act.put _ (some 50) _ = _
              simp only [Act.put, List.setIfInBounds_toArray, List.set_cons_zero, List.set_cons_succ, i64_w, i32_w]
              rfl
            refine pure_ (i := 7) (N := some 51) (v := ?_) (a' := ?_) #[true, true, true, true, true, true, true, true, true, true, false, false, false] rfl rfl (any_of HT_.out (by kernel_rfl)) (fun _ _ _ h => h) (Or.inl ⟨by rfl, ?_⟩) ?_ ?_
            rotate_left
            · intro w'
              go_simp
              with_reducible rfl
            rotate_left
            · simp only [Act.put, List.setIfInBounds_toArray, List.set_cons_zero, List.set_cons_succ, i64_w, i32_w]
              rfl
            refine one_ (i := 10) (N := some 54) #[true, true, true, true, true, true, true, true, true, true, true, false, false] rfl rfl (one_of HT_.out (by kernel_rfl)) (by decide) (fun K hK => ?_)
            refine goes_ Tryd.func76 (by kernel_rfl) rfl #[.string (⟨#[49, 48, 51]⟩ : ByteArray), .int .i64 a0_9] (by rfl) rfl rfl (by (try simp only [List.map_toArray, List.map_cons, List.map_nil]); first | done | rfl | (simp only [List.length_drop, List.length_take]; rfl)) ?_
            with_reducible refine (spigotref12_Number.calls (⟨#[49, 48, 51]⟩ : ByteArray) a0_9 t276 _ A35.out).mono ?_
            rintro e w41 ⟨rfl, hb⟩
            refine ⟨_, rfl, ?_⟩
            have n0_ := Aside0.mk (blk_below (g := gb265) (o := .cells #[.int .i64 a0_0, .string a0_1, .string a0_2, .int .i64 a0_3, .int .i64 a0_4, .int .i64 a0_5, .int .i64 a0_6, .int .i64 a0_7, .int .i64 a0_8, .int .i64 a0_9] 31 (0, 0)) (by (with_reducible repeat (first | refine blk_drewN ?_ _ | refine blk_drew ?_ | refine blk_alloc ?_ _)); exact BK265.out) hb)
            have n1_ := Aside0.mk (below_step (by repeat (first | (with_reducible first | exact HB.out | apply below_alloc | apply pw_below_drewN | apply below_drew1 | refine below_set ?_ GE265.out) | exact HB.out)) hb)
            clear BK265
            clear HB
            have BK265 := n0_
            have HB := n1_
            clear n0_ n1_
            (try clear hb)
            (try clear hb2)
            (try clear hk)
            (try clear hi)
            refine hK.out _ _ ⟨(blk_cell BK265.out 0).trans rfl, (blk_cell BK265.out 1).trans rfl, (blk_cell BK265.out 2).trans rfl, (blk_cell BK265.out 3).trans rfl, (blk_cell BK265.out 4).trans rfl, (blk_cell BK265.out 5).trans rfl, (blk_cell BK265.out 6).trans rfl, (blk_cell BK265.out 7).trans rfl, (blk_cell BK265.out 8).trans rfl, (blk_cell BK265.out 9).trans rfl⟩ (fun hHeld => ?_)
            clear hK K
            refine norm_ (a' := ?_) ?_ ?_
            rotate_left
            · show Act.put _ (some 54) _ = _
              simp only [Act.put, List.setIfInBounds_toArray, List.set_cons_zero, List.set_cons_succ, i64_w, i32_w]
              rfl
            refine pure_ (i := 11) (N := some 55) (v := ?_) (a' := ?_) #[true, true, true, true, true, true, true, true, true, true, true, true, false] rfl rfl (any_of HT_.out (by kernel_rfl)) (fun _ _ _ h => h) (Or.inl ⟨by rfl, ?_⟩) ?_ ?_
            rotate_left
            · intro w'
              go_simp
              with_reducible rfl
            rotate_left
            · simp only [Act.put, List.setIfInBounds_toArray, List.set_cons_zero, List.set_cons_succ, i64_w, i32_w]
              rfl
            refine pure_ (i := 12) (N := some 2) (v := ?_) (a' := ?_) #[true, true, true, true, true, true, true, true, true, true, true, true, true] rfl rfl (any_of HT_.out (by kernel_rfl)) (fun _ _ _ h => h) (Or.inl ⟨by rfl, ?_⟩) ?_ ?_
            rotate_left
            · intro w'
              go_simp
              with_reducible rfl
            rotate_left
            · simp only [Act.put, List.setIfInBounds_toArray, List.set_cons_zero, List.set_cons_succ, i64_w, i32_w]
              rfl
            refine done_ (done_of HT_.out (by kernel_rfl)) ?_
            try go_wp2
            go_ret
            exact ⟨by first | rfl | (simp [errW_none, errW_some] <;> rfl) | (simp [*, errW_none, errW_some] <;> rfl), by repeat (first | (with_reducible first | exact HB.out | apply below_alloc | apply pw_below_drewN | apply below_drew1 | refine below_set ?_ GE265.out) | exact HB.out)⟩
          · rw [if_neg c36] at H
            exact absurd H (by simp)
        · rw [if_neg c34] at H
          exact absurd H (by simp)
      · rw [if_neg c32] at H
        exact absurd H (by simp)
    · rw [if_neg c30] at H
      have c30b0 : (a0_0 == 2) = false := beq_eq_false_iff_ne.mpr c30
      have c30b1 : (a0_0 != 2) = true := bne_iff_ne.mpr c30
      by_cases c42 : a0_0 = 3
      · rw [if_pos c42] at H
        have c42b0 : (a0_0 == 3) = true := beq_iff_eq.mpr c42
        have c42b1 : (a0_0 != 3) = false := bne_eq_false_iff_eq.mpr c42
        clear c42
        replace H := Option.bind_eq_some_iff.mp H
        obtain ⟨t277, A430, H⟩ := H
        replace H : (if 5 + t277.size ≤ 9223372036854775807 then ((spigotref12_Number.f (⟨#[51, 55, 51]⟩ : ByteArray) a0_9).bind fun t278 => (if ((⟨#[51, 53, 61, 51, 1]⟩ : ByteArray) ++ t277).size + t278.size ≤ 9223372036854775807 then (some (((⟨#[51, 53, 61, 51, 1]⟩ : ByteArray) ++ t277) ++ t278)) else (none))) else (none)) = some r := H
        have A43 := Aside0.mk A430
        clear A430
        by_cases c44 : 5 + t277.size ≤ 9223372036854775807
        · rw [if_pos c44] at H
          have c44b0 := eq_true c44
          have c44b1 : decide (5 + t277.size ≤ 9223372036854775807) = true := decide_eq_true c44
          try have c44b2 : (9223372036854775807 < 5 + t277.size) = False := eq_false (Nat.not_lt.2 c44)
          try (have c44b3 := c44; simp only [ByteArray.size_append, sz_lit, List.length_cons, List.length_nil, Nat.zero_add] at c44b3; have c44b4 := eq_false (Nat.not_lt.2 c44b3))
          replace H := Option.bind_eq_some_iff.mp H
          obtain ⟨t278, A450, H⟩ := H
          replace H : (if ((⟨#[51, 53, 61, 51, 1]⟩ : ByteArray) ++ t277).size + t278.size ≤ 9223372036854775807 then (some (((⟨#[51, 53, 61, 51, 1]⟩ : ByteArray) ++ t277) ++ t278)) else (none)) = some r := H
          have A45 := Aside0.mk A450
          clear A450
          by_cases c46 : ((⟨#[51, 53, 61, 51, 1]⟩ : ByteArray) ++ t277).size + t278.size ≤ 9223372036854775807
          · rw [if_pos c46] at H
            have c46b0 := eq_true c46
            have c46b1 : decide (((⟨#[51, 53, 61, 51, 1]⟩ : ByteArray) ++ t277).size + t278.size ≤ 9223372036854775807) = true := decide_eq_true c46
            try have c46b2 : (9223372036854775807 < ((⟨#[51, 53, 61, 51, 1]⟩ : ByteArray) ++ t277).size + t278.size) = False := eq_false (Nat.not_lt.2 c46)
            try (have c46b3 := c46; simp only [ByteArray.size_append, sz_lit, List.length_cons, List.length_nil, Nat.zero_add] at c46b3; have c46b4 := eq_false (Nat.not_lt.2 c46b3))
            obtain rfl := Option.some.inj H
            go_enter Tryd.func52, Tryd.ntmps52
            try go_wp2_with (first | ((with_reducible refine gate_dst (N := 1) rfl ?_); refine box_event ?hg (N := 1) ?hd (cs := #[.int .i64 a0_0, .string a0_1, .string a0_2, .int .i64 a0_3, .int .i64 a0_4, .int .i64 a0_5, .int .i64 a0_6, .int .i64 a0_7, .int .i64 a0_8, .int .i64 a0_9]) (t := 31) ?hr ?_; (case hd => rfl); (case hg => rfl); (case hr => first | (go_simp; done) | (go_simp; rfl)); intro gb265 hg w47 hbox hb; have n0_ := Aside0.mk (below_step (by repeat (first | (with_reducible first | exact HB.out | apply below_alloc | apply pw_below_drewN | apply below_drew1) | exact HB.out)) hb); have n1_ := Aside0.mk (hbox); have n2_ := Aside0.mk ((by rw [hg]; exact (below_size (by repeat (first | (with_reducible first | exact HB.out | apply below_alloc | apply pw_below_drewN | apply below_drew1) | exact HB.out))) : w.heap.size ≤ gb265)); have n3_ := Aside0.mk ((by rw [hg]; exact (below_size (by repeat (first | (with_reducible first | exact HB.out | apply below_alloc | apply pw_below_drewN | apply below_drew1) | exact HB.out))) : w.heap.size ≤ gb265)); clear HB; have HB := n0_; have BK265 := n1_; have GW265 := n2_; have GE265 := n3_; clear n0_ n1_ n2_ n3_; clear hb hbox hg; have hcz48_0 : w47.cell? ⟨gb265, 0, none⟩ = some (.int .i64 a0_0) := (blk_cell BK265.out 0).trans rfl; have hcz48_1 : w47.cell? ⟨gb265, 1, none⟩ = some (.string a0_1) := (blk_cell BK265.out 1).trans rfl; have hcz48_2 : w47.cell? ⟨gb265, 2, none⟩ = some (.string a0_2) := (blk_cell BK265.out 2).trans rfl; have hcz48_3 : w47.cell? ⟨gb265, 3, none⟩ = some (.int .i64 a0_3) := (blk_cell BK265.out 3).trans rfl; have hcz48_4 : w47.cell? ⟨gb265, 4, none⟩ = some (.int .i64 a0_4) := (blk_cell BK265.out 4).trans rfl; have hcz48_5 : w47.cell? ⟨gb265, 5, none⟩ = some (.int .i64 a0_5) := (blk_cell BK265.out 5).trans rfl; have hcz48_6 : w47.cell? ⟨gb265, 6, none⟩ = some (.int .i64 a0_6) := (blk_cell BK265.out 6).trans rfl; have hcz48_7 : w47.cell? ⟨gb265, 7, none⟩ = some (.int .i64 a0_7) := (blk_cell BK265.out 7).trans rfl; have hcz48_8 : w47.cell? ⟨gb265, 8, none⟩ = some (.int .i64 a0_8) := (blk_cell BK265.out 8).trans rfl; have hcz48_9 : w47.cell? ⟨gb265, 9, none⟩ = some (.int .i64 a0_9) := (blk_cell BK265.out 9).trans rfl; have hfz48_0 := blk_frozen BK265.out 0; have hfz48_1 := blk_frozen BK265.out 1; have hfz48_2 := blk_frozen BK265.out 2; have hfz48_3 := blk_frozen BK265.out 3; have hfz48_4 := blk_frozen BK265.out 4; have hfz48_5 := blk_frozen BK265.out 5; have hfz48_6 := blk_frozen BK265.out 6; have hfz48_7 := blk_frozen BK265.out 7; have hfz48_8 := blk_frozen BK265.out 8; have hfz48_9 := blk_frozen BK265.out 9))
            have n0_ := Aside0.mk (blk_drew BK265.out)
            have n1_ := Aside0.mk (below_drew1 HB.out)
            clear BK265
            clear HB
            have BK265 := n0_
            have HB := n1_
            clear n0_ n1_
            refine start_ (n := 9) (S := fun w' => w'.cell? ⟨gb265, 0, none⟩ = some (.int .i64 a0_0) ∧ w'.cell? ⟨gb265, 1, none⟩ = some (.string a0_1) ∧ w'.cell? ⟨gb265, 2, none⟩ = some (.string a0_2) ∧ w'.cell? ⟨gb265, 3, none⟩ = some (.int .i64 a0_3) ∧ w'.cell? ⟨gb265, 4, none⟩ = some (.int .i64 a0_4) ∧ w'.cell? ⟨gb265, 5, none⟩ = some (.int .i64 a0_5) ∧ w'.cell? ⟨gb265, 6, none⟩ = some (.int .i64 a0_6) ∧ w'.cell? ⟨gb265, 7, none⟩ = some (.int .i64 a0_7) ∧ w'.cell? ⟨gb265, 8, none⟩ = some (.int .i64 a0_8) ∧ w'.cell? ⟨gb265, 9, none⟩ = some (.int .i64 a0_9)) (ds := []) #[false, false, false, false, false, false, false, false, false] (by kernel_rfl) rfl rfl ⟨(blk_cell BK265.out 0).trans rfl, (blk_cell BK265.out 1).trans rfl, (blk_cell BK265.out 2).trans rfl, (blk_cell BK265.out 3).trans rfl, (blk_cell BK265.out 4).trans rfl, (blk_cell BK265.out 5).trans rfl, (blk_cell BK265.out 6).trans rfl, (blk_cell BK265.out 7).trans rfl, (blk_cell BK265.out 8).trans rfl, (blk_cell BK265.out 9).trans rfl⟩ (fun hHeld => ?_); refine with_tabW spigotref13_Form.tab8 spigotref13_Form.bits8 (fun HT_ HW_ => ?_)
            generalize w47.drew = w49 at BK265 HB hHeld ⊢
            refine pure_ (i := 0) (N := some 59) (v := ?_) (a' := ?_) #[true, false, false, false, false, false, false, false, false] rfl rfl (any_of HT_.out (by kernel_rfl)) (fun _ _ _ h => h) (Or.inl ⟨by rfl, ?_⟩) ?_ ?_
            rotate_left
            · intro w'
              go_simp
              with_reducible rfl
            rotate_left
            · simp only [Act.put, List.setIfInBounds_toArray, List.set_cons_zero, List.set_cons_succ, i64_w, i32_w]
              rfl
            refine pure_ (i := 4) (N := some 63) (v := ?_) (a' := ?_) #[true, false, false, false, true, false, false, false, false] rfl rfl (any_of HT_.out (by kernel_rfl)) (fun _ _ _ h => h) (Or.inl ⟨by rfl, ?_⟩) ?_ ?_
            rotate_left
            · intro w'
              go_simp
              with_reducible rfl
            rotate_left
            · simp only [Act.put, List.setIfInBounds_toArray, List.set_cons_zero, List.set_cons_succ, i64_w, i32_w]
              rfl
            refine take_ (i := 1) (N := some 60) (v := ?_) (a' := ?_) #[true, true, false, false, true, false, false, false, false] rfl rfl (take_ofW HT_.out HW_.out (by kernel_rfl)) (fun _ _ _ h => h) (Or.inl ⟨by rfl, ?_⟩) hHeld ?_ ?_
            rotate_left
            · rintro w' ⟨s0, s1, s2, s3, s4, s5, s6, s7, s8, s9⟩
              go_simp
              with_reducible rfl
            rotate_left
            · simp only [Act.put, List.setIfInBounds_toArray, List.set_cons_zero, List.set_cons_succ, i64_w, i32_w]
              rfl
            refine take_ (i := 5) (N := some 64) (v := ?_) (a' := ?_) #[true, true, false, false, true, true, false, false, false] rfl rfl (take_ofW HT_.out HW_.out (by kernel_rfl)) (fun _ _ _ h => h) (Or.inl ⟨by rfl, ?_⟩) hHeld ?_ ?_
            rotate_left
            · rintro w' ⟨s0, s1, s2, s3, s4, s5, s6, s7, s8, s9⟩
              go_simp
              with_reducible rfl
            rotate_left
            · simp only [Act.put, List.setIfInBounds_toArray, List.set_cons_zero, List.set_cons_succ, i64_w, i32_w]
              rfl
            refine one_ (i := 2) (N := some 61) #[true, true, true, false, true, true, false, false, false] rfl rfl (one_of HT_.out (by kernel_rfl)) (by decide) (fun K hK => ?_)
            refine goes_ Tryd.func76 (by kernel_rfl) rfl #[.string (⟨#[51, 55, 49]⟩ : ByteArray), .int .i64 a0_8] (by rfl) rfl rfl (by (try simp only [List.map_toArray, List.map_cons, List.map_nil]); first | done | rfl | (simp only [List.length_drop, List.length_take]; rfl)) ?_
            with_reducible refine (spigotref12_Number.calls (⟨#[51, 55, 49]⟩ : ByteArray) a0_8 t277 _ A43.out).mono ?_
            rintro e w50 ⟨rfl, hb⟩
            refine ⟨_, rfl, ?_⟩
            have n0_ := Aside0.mk (blk_below (g := gb265) (o := .cells #[.int .i64 a0_0, .string a0_1, .string a0_2, .int .i64 a0_3, .int .i64 a0_4, .int .i64 a0_5, .int .i64 a0_6, .int .i64 a0_7, .int .i64 a0_8, .int .i64 a0_9] 31 (0, 0)) (by (with_reducible repeat (first | refine blk_drewN ?_ _ | refine blk_drew ?_ | refine blk_alloc ?_ _)); exact BK265.out) hb)
            have n1_ := Aside0.mk (below_step (by repeat (first | (with_reducible first | exact HB.out | apply below_alloc | apply pw_below_drewN | apply below_drew1 | refine below_set ?_ GE265.out) | exact HB.out)) hb)
            clear BK265
            clear HB
            have BK265 := n0_
            have HB := n1_
            clear n0_ n1_
            (try clear hb)
            (try clear hb2)
            (try clear hk)
            (try clear hi)
            refine hK.out _ _ ⟨(blk_cell BK265.out 0).trans rfl, (blk_cell BK265.out 1).trans rfl, (blk_cell BK265.out 2).trans rfl, (blk_cell BK265.out 3).trans rfl, (blk_cell BK265.out 4).trans rfl, (blk_cell BK265.out 5).trans rfl, (blk_cell BK265.out 6).trans rfl, (blk_cell BK265.out 7).trans rfl, (blk_cell BK265.out 8).trans rfl, (blk_cell BK265.out 9).trans rfl⟩ (fun hHeld => ?_)
            clear hK K
            refine norm_ (a' := ?_) ?_ ?_
            rotate_left
            · show Act.put _ (some 61) _ = _
              simp only [Act.put, List.setIfInBounds_toArray, List.set_cons_zero, List.set_cons_succ, i64_w, i32_w]
              rfl
            refine pure_ (i := 3) (N := some 62) (v := ?_) (a' := ?_) #[true, true, true, true, true, true, false, false, false] rfl rfl (any_of HT_.out (by kernel_rfl)) (fun _ _ _ h => h) (Or.inl ⟨by rfl, ?_⟩) ?_ ?_
            rotate_left
            · intro w'
              go_simp
              with_reducible rfl
            rotate_left
            · simp only [Act.put, List.setIfInBounds_toArray, List.set_cons_zero, List.set_cons_succ, i64_w, i32_w]
              rfl
            refine one_ (i := 6) (N := some 65) #[true, true, true, true, true, true, true, false, false] rfl rfl (one_of HT_.out (by kernel_rfl)) (by decide) (fun K hK => ?_)
            refine goes_ Tryd.func76 (by kernel_rfl) rfl #[.string (⟨#[51, 55, 51]⟩ : ByteArray), .int .i64 a0_9] (by rfl) rfl rfl (by (try simp only [List.map_toArray, List.map_cons, List.map_nil]); first | done | rfl | (simp only [List.length_drop, List.length_take]; rfl)) ?_
            with_reducible refine (spigotref12_Number.calls (⟨#[51, 55, 51]⟩ : ByteArray) a0_9 t278 _ A45.out).mono ?_
            rintro e w51 ⟨rfl, hb⟩
            refine ⟨_, rfl, ?_⟩
            have n0_ := Aside0.mk (blk_below (g := gb265) (o := .cells #[.int .i64 a0_0, .string a0_1, .string a0_2, .int .i64 a0_3, .int .i64 a0_4, .int .i64 a0_5, .int .i64 a0_6, .int .i64 a0_7, .int .i64 a0_8, .int .i64 a0_9] 31 (0, 0)) (by (with_reducible repeat (first | refine blk_drewN ?_ _ | refine blk_drew ?_ | refine blk_alloc ?_ _)); exact BK265.out) hb)
            have n1_ := Aside0.mk (below_step (by repeat (first | (with_reducible first | exact HB.out | apply below_alloc | apply pw_below_drewN | apply below_drew1 | refine below_set ?_ GE265.out) | exact HB.out)) hb)
            clear BK265
            clear HB
            have BK265 := n0_
            have HB := n1_
            clear n0_ n1_
            (try clear hb)
            (try clear hb2)
            (try clear hk)
            (try clear hi)
            refine hK.out _ _ ⟨(blk_cell BK265.out 0).trans rfl, (blk_cell BK265.out 1).trans rfl, (blk_cell BK265.out 2).trans rfl, (blk_cell BK265.out 3).trans rfl, (blk_cell BK265.out 4).trans rfl, (blk_cell BK265.out 5).trans rfl, (blk_cell BK265.out 6).trans rfl, (blk_cell BK265.out 7).trans rfl, (blk_cell BK265.out 8).trans rfl, (blk_cell BK265.out 9).trans rfl⟩ (fun hHeld => ?_)
            clear hK K
            refine norm_ (a' := ?_) ?_ ?_
            rotate_left
            · show Act.put _ (some 65) _ = _
              simp only [Act.put, List.setIfInBounds_toArray, List.set_cons_zero, List.set_cons_succ, i64_w, i32_w]
              rfl
            refine pure_ (i := 7) (N := some 66) (v := ?_) (a' := ?_) #[true, true, true, true, true, true, true, true, false] rfl rfl (any_of HT_.out (by kernel_rfl)) (fun _ _ _ h => h) (Or.inl ⟨by rfl, ?_⟩) ?_ ?_
            rotate_left
            · intro w'
              go_simp
              with_reducible rfl
            rotate_left
            · simp only [Act.put, List.setIfInBounds_toArray, List.set_cons_zero, List.set_cons_succ, i64_w, i32_w]
              rfl
            refine pure_ (i := 8) (N := some 2) (v := ?_) (a' := ?_) #[true, true, true, true, true, true, true, true, true] rfl rfl (any_of HT_.out (by kernel_rfl)) (fun _ _ _ h => h) (Or.inl ⟨by rfl, ?_⟩) ?_ ?_
            rotate_left
            · intro w'
              go_simp
              with_reducible rfl
            rotate_left
            · simp only [Act.put, List.setIfInBounds_toArray, List.set_cons_zero, List.set_cons_succ, i64_w, i32_w]
              rfl
            refine done_ (done_of HT_.out (by kernel_rfl)) ?_
            try go_wp2
            go_ret
            exact ⟨by first | rfl | (simp [errW_none, errW_some] <;> rfl) | (simp [*, errW_none, errW_some] <;> rfl), by repeat (first | (with_reducible first | exact HB.out | apply below_alloc | apply pw_below_drewN | apply below_drew1 | refine below_set ?_ GE265.out) | exact HB.out)⟩
          · rw [if_neg c46] at H
            exact absurd H (by simp)
        · rw [if_neg c44] at H
          exact absurd H (by simp)
      · rw [if_neg c42] at H
        have c42b0 : (a0_0 == 3) = false := beq_eq_false_iff_ne.mpr c42
        have c42b1 : (a0_0 != 3) = true := bne_iff_ne.mpr c42
        replace H := Option.bind_eq_some_iff.mp H
        obtain ⟨t279, A520, H⟩ := H
        replace H : (if 5 + t279.size ≤ 9223372036854775807 then ((spigotref12_Number.f (⟨#[51, 56, 48]⟩ : ByteArray) a0_9).bind fun t280 => (if ((⟨#[51, 53, 61, 106, 1]⟩ : ByteArray) ++ t279).size + t280.size ≤ 9223372036854775807 then (some (((⟨#[51, 53, 61, 106, 1]⟩ : ByteArray) ++ t279) ++ t280)) else (none))) else (none)) = some r := H
        have A52 := Aside0.mk A520
        clear A520
        by_cases c53 : 5 + t279.size ≤ 9223372036854775807
        · rw [if_pos c53] at H
          have c53b0 := eq_true c53
          have c53b1 : decide (5 + t279.size ≤ 9223372036854775807) = true := decide_eq_true c53
          try have c53b2 : (9223372036854775807 < 5 + t279.size) = False := eq_false (Nat.not_lt.2 c53)
          try (have c53b3 := c53; simp only [ByteArray.size_append, sz_lit, List.length_cons, List.length_nil, Nat.zero_add] at c53b3; have c53b4 := eq_false (Nat.not_lt.2 c53b3))
          replace H := Option.bind_eq_some_iff.mp H
          obtain ⟨t280, A540, H⟩ := H
          replace H : (if ((⟨#[51, 53, 61, 106, 1]⟩ : ByteArray) ++ t279).size + t280.size ≤ 9223372036854775807 then (some (((⟨#[51, 53, 61, 106, 1]⟩ : ByteArray) ++ t279) ++ t280)) else (none)) = some r := H
          have A54 := Aside0.mk A540
          clear A540
          by_cases c55 : ((⟨#[51, 53, 61, 106, 1]⟩ : ByteArray) ++ t279).size + t280.size ≤ 9223372036854775807
          · rw [if_pos c55] at H
            have c55b0 := eq_true c55
            have c55b1 : decide (((⟨#[51, 53, 61, 106, 1]⟩ : ByteArray) ++ t279).size + t280.size ≤ 9223372036854775807) = true := decide_eq_true c55
            try have c55b2 : (9223372036854775807 < ((⟨#[51, 53, 61, 106, 1]⟩ : ByteArray) ++ t279).size + t280.size) = False := eq_false (Nat.not_lt.2 c55)
            try (have c55b3 := c55; simp only [ByteArray.size_append, sz_lit, List.length_cons, List.length_nil, Nat.zero_add] at c55b3; have c55b4 := eq_false (Nat.not_lt.2 c55b3))
            obtain rfl := Option.some.inj H
            go_enter Tryd.func52, Tryd.ntmps52
            try go_wp2_with (first | ((with_reducible refine gate_dst (N := 1) rfl ?_); refine box_event ?hg (N := 1) ?hd (cs := #[.int .i64 a0_0, .string a0_1, .string a0_2, .int .i64 a0_3, .int .i64 a0_4, .int .i64 a0_5, .int .i64 a0_6, .int .i64 a0_7, .int .i64 a0_8, .int .i64 a0_9]) (t := 31) ?hr ?_; (case hd => rfl); (case hg => rfl); (case hr => first | (go_simp; done) | (go_simp; rfl)); intro gb265 hg w56 hbox hb; have n0_ := Aside0.mk (below_step (by repeat (first | (with_reducible first | exact HB.out | apply below_alloc | apply pw_below_drewN | apply below_drew1) | exact HB.out)) hb); have n1_ := Aside0.mk (hbox); have n2_ := Aside0.mk ((by rw [hg]; exact (below_size (by repeat (first | (with_reducible first | exact HB.out | apply below_alloc | apply pw_below_drewN | apply below_drew1) | exact HB.out))) : w.heap.size ≤ gb265)); have n3_ := Aside0.mk ((by rw [hg]; exact (below_size (by repeat (first | (with_reducible first | exact HB.out | apply below_alloc | apply pw_below_drewN | apply below_drew1) | exact HB.out))) : w.heap.size ≤ gb265)); clear HB; have HB := n0_; have BK265 := n1_; have GW265 := n2_; have GE265 := n3_; clear n0_ n1_ n2_ n3_; clear hb hbox hg; have hcz57_0 : w56.cell? ⟨gb265, 0, none⟩ = some (.int .i64 a0_0) := (blk_cell BK265.out 0).trans rfl; have hcz57_1 : w56.cell? ⟨gb265, 1, none⟩ = some (.string a0_1) := (blk_cell BK265.out 1).trans rfl; have hcz57_2 : w56.cell? ⟨gb265, 2, none⟩ = some (.string a0_2) := (blk_cell BK265.out 2).trans rfl; have hcz57_3 : w56.cell? ⟨gb265, 3, none⟩ = some (.int .i64 a0_3) := (blk_cell BK265.out 3).trans rfl; have hcz57_4 : w56.cell? ⟨gb265, 4, none⟩ = some (.int .i64 a0_4) := (blk_cell BK265.out 4).trans rfl; have hcz57_5 : w56.cell? ⟨gb265, 5, none⟩ = some (.int .i64 a0_5) := (blk_cell BK265.out 5).trans rfl; have hcz57_6 : w56.cell? ⟨gb265, 6, none⟩ = some (.int .i64 a0_6) := (blk_cell BK265.out 6).trans rfl; have hcz57_7 : w56.cell? ⟨gb265, 7, none⟩ = some (.int .i64 a0_7) := (blk_cell BK265.out 7).trans rfl; have hcz57_8 : w56.cell? ⟨gb265, 8, none⟩ = some (.int .i64 a0_8) := (blk_cell BK265.out 8).trans rfl; have hcz57_9 : w56.cell? ⟨gb265, 9, none⟩ = some (.int .i64 a0_9) := (blk_cell BK265.out 9).trans rfl; have hfz57_0 := blk_frozen BK265.out 0; have hfz57_1 := blk_frozen BK265.out 1; have hfz57_2 := blk_frozen BK265.out 2; have hfz57_3 := blk_frozen BK265.out 3; have hfz57_4 := blk_frozen BK265.out 4; have hfz57_5 := blk_frozen BK265.out 5; have hfz57_6 := blk_frozen BK265.out 6; have hfz57_7 := blk_frozen BK265.out 7; have hfz57_8 := blk_frozen BK265.out 8; have hfz57_9 := blk_frozen BK265.out 9))
            have n0_ := Aside0.mk (blk_drew BK265.out)
            have n1_ := Aside0.mk (below_drew1 HB.out)
            clear BK265
            clear HB
            have BK265 := n0_
            have HB := n1_
            clear n0_ n1_
            refine start_ (n := 9) (S := fun w' => w'.cell? ⟨gb265, 0, none⟩ = some (.int .i64 a0_0) ∧ w'.cell? ⟨gb265, 1, none⟩ = some (.string a0_1) ∧ w'.cell? ⟨gb265, 2, none⟩ = some (.string a0_2) ∧ w'.cell? ⟨gb265, 3, none⟩ = some (.int .i64 a0_3) ∧ w'.cell? ⟨gb265, 4, none⟩ = some (.int .i64 a0_4) ∧ w'.cell? ⟨gb265, 5, none⟩ = some (.int .i64 a0_5) ∧ w'.cell? ⟨gb265, 6, none⟩ = some (.int .i64 a0_6) ∧ w'.cell? ⟨gb265, 7, none⟩ = some (.int .i64 a0_7) ∧ w'.cell? ⟨gb265, 8, none⟩ = some (.int .i64 a0_8) ∧ w'.cell? ⟨gb265, 9, none⟩ = some (.int .i64 a0_9)) (ds := []) #[false, false, false, false, false, false, false, false, false] (by kernel_rfl) rfl rfl ⟨(blk_cell BK265.out 0).trans rfl, (blk_cell BK265.out 1).trans rfl, (blk_cell BK265.out 2).trans rfl, (blk_cell BK265.out 3).trans rfl, (blk_cell BK265.out 4).trans rfl, (blk_cell BK265.out 5).trans rfl, (blk_cell BK265.out 6).trans rfl, (blk_cell BK265.out 7).trans rfl, (blk_cell BK265.out 8).trans rfl, (blk_cell BK265.out 9).trans rfl⟩ (fun hHeld => ?_); refine with_tabW spigotref13_Form.tab9 spigotref13_Form.bits9 (fun HT_ HW_ => ?_)
            generalize w56.drew = w58 at BK265 HB hHeld ⊢
            refine pure_ (i := 0) (N := some 67) (v := ?_) (a' := ?_) #[true, false, false, false, false, false, false, false, false] rfl rfl (any_of HT_.out (by kernel_rfl)) (fun _ _ _ h => h) (Or.inl ⟨by rfl, ?_⟩) ?_ ?_
            rotate_left
            · intro w'
              go_simp
              with_reducible rfl
            rotate_left
            · simp only [Act.put, List.setIfInBounds_toArray, List.set_cons_zero, List.set_cons_succ, i64_w, i32_w]
              rfl
            refine pure_ (i := 4) (N := some 71) (v := ?_) (a' := ?_) #[true, false, false, false, true, false, false, false, false] rfl rfl (any_of HT_.out (by kernel_rfl)) (fun _ _ _ h => h) (Or.inl ⟨by rfl, ?_⟩) ?_ ?_
            rotate_left
            · intro w'
              go_simp
              with_reducible rfl
            rotate_left
            · simp only [Act.put, List.setIfInBounds_toArray, List.set_cons_zero, List.set_cons_succ, i64_w, i32_w]
              rfl
            refine take_ (i := 1) (N := some 68) (v := ?_) (a' := ?_) #[true, true, false, false, true, false, false, false, false] rfl rfl (take_ofW HT_.out HW_.out (by kernel_rfl)) (fun _ _ _ h => h) (Or.inl ⟨by rfl, ?_⟩) hHeld ?_ ?_
            rotate_left
            · rintro w' ⟨s0, s1, s2, s3, s4, s5, s6, s7, s8, s9⟩
              go_simp
              with_reducible rfl
            rotate_left
            · simp only [Act.put, List.setIfInBounds_toArray, List.set_cons_zero, List.set_cons_succ, i64_w, i32_w]
              rfl
            refine take_ (i := 5) (N := some 72) (v := ?_) (a' := ?_) #[true, true, false, false, true, true, false, false, false] rfl rfl (take_ofW HT_.out HW_.out (by kernel_rfl)) (fun _ _ _ h => h) (Or.inl ⟨by rfl, ?_⟩) hHeld ?_ ?_
            rotate_left
            · rintro w' ⟨s0, s1, s2, s3, s4, s5, s6, s7, s8, s9⟩
              go_simp
              with_reducible rfl
            rotate_left
            · simp only [Act.put, List.setIfInBounds_toArray, List.set_cons_zero, List.set_cons_succ, i64_w, i32_w]
              rfl
            refine one_ (i := 2) (N := some 69) #[true, true, true, false, true, true, false, false, false] rfl rfl (one_of HT_.out (by kernel_rfl)) (by decide) (fun K hK => ?_)
            refine goes_ Tryd.func76 (by kernel_rfl) rfl #[.string (⟨#[51, 55, 49]⟩ : ByteArray), .int .i64 a0_8] (by rfl) rfl rfl (by (try simp only [List.map_toArray, List.map_cons, List.map_nil]); first | done | rfl | (simp only [List.length_drop, List.length_take]; rfl)) ?_
            with_reducible refine (spigotref12_Number.calls (⟨#[51, 55, 49]⟩ : ByteArray) a0_8 t279 _ A52.out).mono ?_
            rintro e w59 ⟨rfl, hb⟩
            refine ⟨_, rfl, ?_⟩
            have n0_ := Aside0.mk (blk_below (g := gb265) (o := .cells #[.int .i64 a0_0, .string a0_1, .string a0_2, .int .i64 a0_3, .int .i64 a0_4, .int .i64 a0_5, .int .i64 a0_6, .int .i64 a0_7, .int .i64 a0_8, .int .i64 a0_9] 31 (0, 0)) (by (with_reducible repeat (first | refine blk_drewN ?_ _ | refine blk_drew ?_ | refine blk_alloc ?_ _)); exact BK265.out) hb)
            have n1_ := Aside0.mk (below_step (by repeat (first | (with_reducible first | exact HB.out | apply below_alloc | apply pw_below_drewN | apply below_drew1 | refine below_set ?_ GE265.out) | exact HB.out)) hb)
            clear BK265
            clear HB
            have BK265 := n0_
            have HB := n1_
            clear n0_ n1_
            (try clear hb)
            (try clear hb2)
            (try clear hk)
            (try clear hi)
            refine hK.out _ _ ⟨(blk_cell BK265.out 0).trans rfl, (blk_cell BK265.out 1).trans rfl, (blk_cell BK265.out 2).trans rfl, (blk_cell BK265.out 3).trans rfl, (blk_cell BK265.out 4).trans rfl, (blk_cell BK265.out 5).trans rfl, (blk_cell BK265.out 6).trans rfl, (blk_cell BK265.out 7).trans rfl, (blk_cell BK265.out 8).trans rfl, (blk_cell BK265.out 9).trans rfl⟩ (fun hHeld => ?_)
            clear hK K
            refine norm_ (a' := ?_) ?_ ?_
            rotate_left
            · show Act.put _ (some 69) _ = _
              simp only [Act.put, List.setIfInBounds_toArray, List.set_cons_zero, List.set_cons_succ, i64_w, i32_w]
              rfl
            refine pure_ (i := 3) (N := some 70) (v := ?_) (a' := ?_) #[true, true, true, true, true, true, false, false, false] rfl rfl (any_of HT_.out (by kernel_rfl)) (fun _ _ _ h => h) (Or.inl ⟨by rfl, ?_⟩) ?_ ?_
            rotate_left
            · intro w'
              go_simp
              with_reducible rfl
            rotate_left
            · simp only [Act.put, List.setIfInBounds_toArray, List.set_cons_zero, List.set_cons_succ, i64_w, i32_w]
              rfl
            refine one_ (i := 6) (N := some 73) #[true, true, true, true, true, true, true, false, false] rfl rfl (one_of HT_.out (by kernel_rfl)) (by decide) (fun K hK => ?_)
            refine goes_ Tryd.func76 (by kernel_rfl) rfl #[.string (⟨#[51, 56, 48]⟩ : ByteArray), .int .i64 a0_9] (by rfl) rfl rfl (by (try simp only [List.map_toArray, List.map_cons, List.map_nil]); first | done | rfl | (simp only [List.length_drop, List.length_take]; rfl)) ?_
            with_reducible refine (spigotref12_Number.calls (⟨#[51, 56, 48]⟩ : ByteArray) a0_9 t280 _ A54.out).mono ?_
            rintro e w60 ⟨rfl, hb⟩
            refine ⟨_, rfl, ?_⟩
            have n0_ := Aside0.mk (blk_below (g := gb265) (o := .cells #[.int .i64 a0_0, .string a0_1, .string a0_2, .int .i64 a0_3, .int .i64 a0_4, .int .i64 a0_5, .int .i64 a0_6, .int .i64 a0_7, .int .i64 a0_8, .int .i64 a0_9] 31 (0, 0)) (by (with_reducible repeat (first | refine blk_drewN ?_ _ | refine blk_drew ?_ | refine blk_alloc ?_ _)); exact BK265.out) hb)
            have n1_ := Aside0.mk (below_step (by repeat (first | (with_reducible first | exact HB.out | apply below_alloc | apply pw_below_drewN | apply below_drew1 | refine below_set ?_ GE265.out) | exact HB.out)) hb)
            clear BK265
            clear HB
            have BK265 := n0_
            have HB := n1_
            clear n0_ n1_
            (try clear hb)
            (try clear hb2)
            (try clear hk)
            (try clear hi)
            refine hK.out _ _ ⟨(blk_cell BK265.out 0).trans rfl, (blk_cell BK265.out 1).trans rfl, (blk_cell BK265.out 2).trans rfl, (blk_cell BK265.out 3).trans rfl, (blk_cell BK265.out 4).trans rfl, (blk_cell BK265.out 5).trans rfl, (blk_cell BK265.out 6).trans rfl, (blk_cell BK265.out 7).trans rfl, (blk_cell BK265.out 8).trans rfl, (blk_cell BK265.out 9).trans rfl⟩ (fun hHeld => ?_)
            clear hK K
            refine norm_ (a' := ?_) ?_ ?_
            rotate_left
            · show Act.put _ (some 73) _ = _
              simp only [Act.put, List.setIfInBounds_toArray, List.set_cons_zero, List.set_cons_succ, i64_w, i32_w]
              rfl
            refine pure_ (i := 7) (N := some 74) (v := ?_) (a' := ?_) #[true, true, true, true, true, true, true, true, false] rfl rfl (any_of HT_.out (by kernel_rfl)) (fun _ _ _ h => h) (Or.inl ⟨by rfl, ?_⟩) ?_ ?_
            rotate_left
            · intro w'
              go_simp
              with_reducible rfl
            rotate_left
            · simp only [Act.put, List.setIfInBounds_toArray, List.set_cons_zero, List.set_cons_succ, i64_w, i32_w]
              rfl
            refine pure_ (i := 8) (N := some 2) (v := ?_) (a' := ?_) #[true, true, true, true, true, true, true, true, true] rfl rfl (any_of HT_.out (by kernel_rfl)) (fun _ _ _ h => h) (Or.inl ⟨by rfl, ?_⟩) ?_ ?_
            rotate_left
            · intro w'
              go_simp
              with_reducible rfl
            rotate_left
            · simp only [Act.put, List.setIfInBounds_toArray, List.set_cons_zero, List.set_cons_succ, i64_w, i32_w]
              rfl
            refine done_ (done_of HT_.out (by kernel_rfl)) ?_
            try go_wp2
            go_ret
            exact ⟨by first | rfl | (simp [errW_none, errW_some] <;> rfl) | (simp [*, errW_none, errW_some] <;> rfl), by repeat (first | (with_reducible first | exact HB.out | apply below_alloc | apply pw_below_drewN | apply below_drew1 | refine below_set ?_ GE265.out) | exact HB.out)⟩
          · rw [if_neg c55] at H
            exact absurd H (by simp)
        · rw [if_neg c53] at H
          exact absurd H (by simp)
end Go.Proofs.YtgfigkfcmkdjdaaDoor.B
end
