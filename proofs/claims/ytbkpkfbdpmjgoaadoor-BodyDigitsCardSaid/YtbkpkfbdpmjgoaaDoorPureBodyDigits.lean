/- Each number from 0 on is read from its digits, and from no others. -/
import Derived.Test.YtbkpkfbdpmjgoaaDoorQx17
namespace Go.Proofs.YtbkpkfbdpmjgoaaDoor.Pure
set_option linter.unusedVariables false
set_option linter.unusedSimpArgs false
open Go.RowKit Go.Proofs.YtbkpkfbdpmjgoaaDoor.Q Go.Proofs.YtbkpkfbdpmjgoaaDoorW.PrintWords Go.Proofs.YtbkpkfbdpmjgoaaDoorW.PrintLast

theorem noP_digs (ds : List UInt8) : ∀ (m : Nat) (r : List UInt8), (∀ x ∈ ds, isDig x) → valFrom m ds ≤ 9223372036854775807 → noP (ds ++ r) m = noP r (valFrom m ds) := by
  induction ds with
  | nil => intro m r _ _; rfl
  | cons b t ih =>
    intro m r hd hv
    rw [valFrom_cons] at hv ⊢
    have hge := valFrom_ge t (10 * m + (b.toNat - 48))
    rw [List.cons_append, noP_go b (t ++ r) m (hd b (by simp)) (by omega)]
    exact ih _ r (fun x hx => hd x (by simp [hx])) hv
theorem numP_digits (n : Nat) (h : n ≤ 9223372036854775807) : numP (digitsN n) = (n, 0) := by
  have hne := digitsN_ne n
  have hv : valFrom 0 (digitsN n) = n := by rw [valFrom_zero, valOf_digitsN]
  unfold numP
  rw [if_neg (by
    rintro (g | ⟨g1, g2⟩)
    · exact hne g
    · by_cases c : n < 10
      · rw [digitsN_small c] at g2; simp at g2
      · match hd : digitsN n with
        | [] => exact hne hd
        | b :: t =>
          rw [hd] at g1
          have := digitsN_head n (by omega) b t hd
          simp at g1
          exact this (by rw [g1]; rfl))]
  have := noP_digs (digitsN n) 0 [] (digitsN_dig n) (by omega)
  rw [List.append_nil, hv] at this
  exact this
theorem numP_nought (n : Nat) : numP (48 :: digitsN n) = (0, 112) := by
  have := digitsN_pos n
  unfold numP
  rw [if_pos (.inr ⟨rfl, by simp; omega⟩)]
theorem numP_plus (l : List UInt8) : numP (43 :: l) = (0, 112) := by
  unfold numP
  rw [if_neg (by
    rintro (g | ⟨g, _⟩)
    · simp at g
    · exact absurd (show (43 : UInt8) = 48 from g) (by decide))]
  exact noP_bad _ _ _ (by unfold isDig; decide)
theorem numP_blank (n : Nat) (h : n ≤ 9223372036854775807) : numP (digitsN n ++ [32]) = (0, 112) := by
  have hne := digitsN_ne n
  have hv : valFrom 0 (digitsN n) = n := by rw [valFrom_zero, valOf_digitsN]
  unfold numP
  split
  · rfl
  · rw [noP_digs (digitsN n) 0 [32] (digitsN_dig n) (by omega)]
    exact noP_bad _ _ _ (by unfold isDig; decide)
theorem digits_noc (n : Nat) : ∀ x ∈ digitsN n, x ≠ 44 := fun x hx e => by
  have := digitsN_dig n x hx
  rw [e] at this
  revert this; unfold isDig; decide
theorem ba_of_list (a b : ByteArray) (h : a.data.toList = b.data.toList) : a = b := ByteArray.ext (Array.toList_inj.1 h)
/-- A text, a comma, a text: two words. -/
theorem split_two (a b : ByteArray) (ha : ∀ x ∈ a.data.toList, x ≠ 44) (hb : ∀ x ∈ b.data.toList, x ≠ 44) (hs : ((a ++ (⟨#[44]⟩ : ByteArray)) ++ b).size < 4294967281) :
    strings_Split.f ((a ++ (⟨#[44]⟩ : ByteArray)) ++ b) (⟨#[44]⟩ : ByteArray) = some [a, b] := by
  obtain ⟨r, h1, h2⟩ := split_spec ((a ++ (⟨#[44]⟩ : ByteArray)) ++ b) 44 hs
  rw [h1]
  have e : ((a ++ (⟨#[44]⟩ : ByteArray)) ++ b).data.toList = a.data.toList ++ 44 :: b.data.toList := by simp [ByteArray.data_append]
  rw [e, splitC_append 44 _ _ ha, splitC_whole 44 _ hb] at h2
  rcases r with _ | ⟨x, _ | ⟨y, _ | ⟨z, t⟩⟩⟩
  · simp at h2
  · simp at h2
  · simp only [List.map_cons, List.map_nil, List.cons.injEq, and_true] at h2
    rw [ba_of_list x a h2.1, ba_of_list y b h2.2]
  · simp at h2
theorem BodyDigits : spigotlaw11_BodyDigits.Pure := by
  intro a0 hw
  have hb : (-9223372036854775808 : Int) ≤ a0 ∧ a0 ≤ 9223372036854775807 := by
    have h := hw
    simp only [Lit.wf, Bool.and_eq_true, decide_eq_true_eq] at h
    exact h
  refine ⟨5, ?_⟩
  unfold spigotlaw11_BodyDigits.f spigotlaw11_awake.f
  simp only [Option.bind_some, if_true]
  by_cases c : a0 < 0
  · rw [if_pos c]
  rw [if_neg c]
  obtain ⟨n, rfl⟩ := Int.eq_ofNat_of_zero_le (by omega : 0 ≤ a0)
  have hn : n ≤ 9223372036854775807 := by omega
  have hl := digitsB_list (n : Int)
  rw [Int.toNat_natCast] at hl
  have hln : (digitsN n).length ≤ 19 := digitsN_len 18 n (by omega)
  have hsz : (digitsB (n : Int)).size ≤ 19 := by rw [digitsB_size, Int.toNat_natCast]; exact hln
  have hdg : spigotref08_Digits.f (n : Int) = some (digitsB (n : Int)) := by
    unfold spigotref08_Digits.f
    rw [if_pos (by omega)]
  have hN : ∀ s : ByteArray, s.size ≤ 100 → body_Number.f s = some (((numP s.data.toList).1 : Int), ((numP s.data.toList).2 : Int)) := fun s h => by
    unfold body_Number.f; rw [if_pos (by omega)]
  rw [hdg]
  generalize digitsB (n : Int) = d at *
  have s1 : ((⟨#[48]⟩ : ByteArray) ++ d).size = 1 + d.size := ByteArray.size_append
  have s2 : ((⟨#[43]⟩ : ByteArray) ++ d).size = 1 + d.size := ByteArray.size_append
  have s3 : (d ++ (⟨#[32]⟩ : ByteArray)).size = d.size + 1 := ByteArray.size_append
  have s4 : (d ++ (⟨#[44]⟩ : ByteArray)).size = d.size + 1 := ByteArray.size_append
  have s5 : ((d ++ (⟨#[44]⟩ : ByteArray)) ++ d).size = d.size + 1 + d.size := by rw [ByteArray.size_append, s4]
  have l1 : ((⟨#[48]⟩ : ByteArray) ++ d).data.toList = 48 :: digitsN n := by simp [ByteArray.data_append, hl]
  have l2 : ((⟨#[43]⟩ : ByteArray) ++ d).data.toList = 43 :: digitsN n := by simp [ByteArray.data_append, hl]
  have l3 : (d ++ (⟨#[32]⟩ : ByteArray)).data.toList = digitsN n ++ [32] := by simp [ByteArray.data_append, hl]
  have hsp := split_two d d (by rw [hl]; exact digits_noc n) (by rw [hl]; exact digits_noc n) (by rw [s5]; omega)
  have hd : body_Number.f d = some ((n : Int), 0) := by rw [hN d (by omega), hl, numP_digits n hn]; rfl
  have hnums : body_Numbers.f 5 ((d ++ (⟨#[44]⟩ : ByteArray)) ++ d) = some ([(n : Int), (n : Int)], 0) := by
    unfold body_Numbers.f
    rw [hsp]
    simp only [Option.bind_some, body_Numbers.l0]
    have r0 : rdOf ByteArray.empty [d, d] 0 = d := rfl
    have r1 : rdOf ByteArray.empty [d, d] 1 = d := rfl
    have w1 : wrap64 1 = 1 := w64 (by decide) (by decide)
    have w2 : wrap64 2 = 2 := w64 (by decide) (by decide)
    simp [r0, r1, w1, w2, hd]
  simp only [Option.bind_some]
  rw [hd, hN _ (by rw [s1]; omega), hN _ (by rw [s2]; omega), hN _ (by rw [s3]; omega), l1, l2, l3, numP_nought, numP_plus, numP_blank n hn, hnums]
  simp only [Option.bind_some]
  rw [s4, if_pos (by omega), if_pos (by omega), if_pos (by omega)]
  simp [rd]

end Go.Proofs.YtbkpkfbdpmjgoaaDoor.Pure
