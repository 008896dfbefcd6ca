/- Each Go function that the laws of this seat reach, as a plain Lean function, and its contract: the machine's call does what that function says. -/
import Derived.Test.YtfmhbibdnkekcaaDoorQx0
import Derived.Test.YtfmhbibdnkekcaaDoorQx2
namespace Go.Proofs.YtfmhbibdnkekcaaDoor.Q
open Go.RowKit Go.Proofs.YtfmhbibdnkekcaaDoorW.PrintWords Go.Proofs.YtfmhbibdnkekcaaDoorW.PrintLast Go.Proofs.YtfmhbibdnkekcaaDoorW.PrintMore
attribute [local go_sem] max2_int min2_int max_two min_two max_three min_three max_four min_four   -- for this text's walks alone
set_option linter.unusedVariables false
set_option linter.unusedSimpArgs false

--PART
/-! ### The number of digits -/
def isDig (b : UInt8) : Prop := 48 ≤ b.toNat ∧ b.toNat ≤ 57
instance (b : UInt8) : Decidable (isDig b) := inferInstanceAs (Decidable (_ ∧ _))
def valOf (l : List UInt8) : Nat := l.foldl (fun n b => 10 * n + (b.toNat - 48)) 0
theorem valOf_nil : valOf [] = 0 := rfl
theorem valOf_snoc (l : List UInt8) (b : UInt8) : valOf (l ++ [b]) = 10 * valOf l + (b.toNat - 48) := by simp [valOf]
theorem ofNat_toNat_small {n : Nat} (h : n < 256) : (UInt8.ofNat n).toNat = n := by simp [UInt8.toNat_ofNat']; omega
theorem isDig_ofNat {n : Nat} (h : n < 10) : isDig (UInt8.ofNat (48 + n)) := by unfold isDig; rw [ofNat_toNat_small (by omega)]; omega
theorem digitsN_dig (n : Nat) : ∀ b ∈ digitsN n, isDig b := by
  induction n using Nat.strongRecOn with
  | _ n ih =>
    by_cases h : n < 10
    · rw [digitsN_small h]; intro b hb; simp only [List.mem_singleton] at hb; subst hb; exact isDig_ofNat h
    · rw [digitsN_step (by omega)]; intro b hb
      rcases List.mem_append.1 hb with hb | hb
      · exact ih (n / 10) (by omega) b hb
      · simp only [List.mem_singleton] at hb; subst hb; exact isDig_ofNat (by omega)
theorem valOf_digitsN (n : Nat) : valOf (digitsN n) = n := by
  induction n using Nat.strongRecOn with
  | _ n ih =>
    by_cases h : n < 10
    · rw [digitsN_small h]; show 10 * 0 + _ = n; rw [ofNat_toNat_small (by omega)]; omega
    · rw [digitsN_step (by omega), valOf_snoc, ih (n / 10) (by omega), ofNat_toNat_small (by omega)]; omega
theorem digitsN_ne (n : Nat) : digitsN n ≠ [] := by have := digitsN_pos n; intro h; rw [h] at this; simp at this
theorem digitsN_head (n : Nat) (hn : 1 ≤ n) : ∀ b t, digitsN n = b :: t → b.toNat ≠ 48 := by
  induction n using Nat.strongRecOn with
  | _ n ih =>
    intro b t e
    by_cases h : n < 10
    · rw [digitsN_small h] at e; injection e with e1 e2; rw [← e1, ofNat_toNat_small (by omega)]; omega
    · rw [digitsN_step (by omega)] at e
      rcases h2 : digitsN (n / 10) with _ | ⟨c, t2⟩
      · exact absurd h2 (digitsN_ne _)
      · rw [h2] at e; injection e with e1 e2; rw [← e1]; exact ih (n / 10) (by omega) (by omega) c t2 h2
theorem u8_ext {a b : UInt8} (h : a.toNat = b.toNat) : a = b := UInt8.toNat_inj.1 h
theorem valOf_pos : ∀ (r : List UInt8) (b : UInt8) (t : List UInt8), r.reverse = b :: t → (∀ x ∈ r, isDig x) → b.toNat ≠ 48 → 1 ≤ valOf r.reverse
  | [], b, t, e, _, _ => by simp at e
  | x :: r, b, t, e, hd, hb => by
    rw [List.reverse_cons] at e ⊢
    rw [valOf_snoc]
    have hx := hd x (by simp)
    rcases h2 : r.reverse with _ | ⟨c, t2⟩
    · rw [h2] at e; simp at e; obtain ⟨rfl, _⟩ := e; unfold isDig at hx; omega
    · rw [h2] at e; injection e with e1 e2
      have := valOf_pos r c t2 h2 (fun y hy => hd y (by simp [hy])) (by rw [e1]; exact hb)
      rw [h2] at this; omega
theorem digitsN_valOf_rev : ∀ (r : List UInt8), r ≠ [] → (∀ x ∈ r, isDig x) → (r.length = 1 ∨ ∀ b t, r.reverse = b :: t → b.toNat ≠ 48) → digitsN (valOf r.reverse) = r.reverse
  | [], h, _, _ => absurd rfl h
  | [x], _, hd, _ => by
    have hx := hd x (by simp)
    unfold isDig at hx
    show digitsN (10 * 0 + (x.toNat - 48)) = [x]
    rw [digitsN_small (by omega)]
    have : x = UInt8.ofNat (48 + (10 * 0 + (x.toNat - 48))) := u8_ext (by rw [ofNat_toNat_small (by omega)]; omega)
    rw [← this]
  | x :: y :: r, _, hd, hh => by
    have hh' : ∀ b t, (x :: y :: r).reverse = b :: t → b.toNat ≠ 48 := by
      rcases hh with hh | hh
      · simp at hh
      · exact hh
    have hx := hd x (by simp)
    unfold isDig at hx
    rw [List.reverse_cons, valOf_snoc]
    have hhead : ∀ b t, (y :: r).reverse = b :: t → b.toNat ≠ 48 := fun b t e => hh' b (t ++ [x]) (by rw [List.reverse_cons, e]; rfl)
    have hd' : ∀ z ∈ y :: r, isDig z := fun z hz => hd z (by simp only [List.mem_cons] at hz ⊢; exact .inr hz)
    have hp : 1 ≤ valOf (y :: r).reverse := by
      rcases h2 : (y :: r).reverse with _ | ⟨c, t2⟩
      · simp at h2
      · have := valOf_pos (y :: r) c t2 h2 hd' (hhead c t2 h2); rw [h2] at this; exact this
    rw [digitsN_step (by omega)]
    have e1 : (10 * valOf (y :: r).reverse + (x.toNat - 48)) / 10 = valOf (y :: r).reverse := by omega
    have e2 : UInt8.ofNat (48 + (10 * valOf (y :: r).reverse + (x.toNat - 48)) % 10) = x := u8_ext (by rw [ofNat_toNat_small (by omega)]; omega)
    rw [e1, e2, digitsN_valOf_rev (y :: r) (by simp) hd' (.inr hhead)]
theorem digitsN_valOf (l : List UInt8) (h0 : l ≠ []) (hd : ∀ x ∈ l, isDig x) (hh : l.length = 1 ∨ ∀ b t, l = b :: t → b.toNat ≠ 48) : digitsN (valOf l) = l := by
  have := digitsN_valOf_rev l.reverse (by simpa using h0) (by simpa using hd) (by simpa using hh)
  simpa using this

end Go.Proofs.YtfmhbibdnkekcaaDoor.Q
