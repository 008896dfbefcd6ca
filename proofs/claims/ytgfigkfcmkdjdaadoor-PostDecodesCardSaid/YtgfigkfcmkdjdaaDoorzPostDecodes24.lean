/- The functions that the law reaches, as plain Lean functions, and their contracts: texts merged. -/
import Derived.Test.YtgfigkfcmkdjdaaDoorzPostDecodes3
import Derived.Test.YtgfigkfcmkdjdaaDoorzPostDecodes0
import Derived.Test.YtgfigkfcmkdjdaaDoorzPostDecodes1
import Derived.Test.YtgfigkfcmkdjdaaDoorzPostDecodes2
import Derived.Test.YtgfigkfcmkdjdaaDoorzPostDecodes4
import Derived.Test.YtgfigkfcmkdjdaaDoorzPostDecodes5
import Derived.Test.YtgfigkfcmkdjdaaDoorzPostDecodes6
import Derived.Test.YtgfigkfcmkdjdaaDoorzPostDecodes7
import Derived.Test.YtgfigkfcmkdjdaaDoorzPostDecodes8
import Derived.Test.YtgfigkfcmkdjdaaDoorzPostDecodes9
import Derived.Test.YtgfigkfcmkdjdaaDoorzPostDecodes10
import Derived.Test.YtgfigkfcmkdjdaaDoorzPostDecodes11
import Derived.Test.YtgfigkfcmkdjdaaDoorzPostDecodes12
import Derived.Test.YtgfigkfcmkdjdaaDoorzPostDecodes13
import Derived.Test.YtgfigkfcmkdjdaaDoorzPostDecodes14
import Derived.Test.YtgfigkfcmkdjdaaDoorzPostDecodes15
import Derived.Test.YtgfigkfcmkdjdaaDoorzPostDecodes16
import Derived.Test.YtgfigkfcmkdjdaaDoorzPostDecodes17
import Derived.Test.YtgfigkfcmkdjdaaDoorzPostDecodes19
import Derived.Test.YtgfigkfcmkdjdaaDoorzPostDecodes18
import Derived.Test.YtgfigkfcmkdjdaaDoorzPostDecodes20
import Derived.Test.YtgfigkfcmkdjdaaDoorzPostDecodes22
section
namespace Go.Proofs.YtgfigkfcmkdjdaaDoor.B
open Go.RowKit Go.Proofs.YtgfigkfcmkdjdaaDoorW.PrintWords Go.Proofs.YtgfigkfcmkdjdaaDoorW.PrintLast Go.Proofs.YtgfigkfcmkdjdaaDoorW.PrintMore
attribute [local go_sem] max2_int min2_int max_two min_two max_three min_three max_four min_four   -- for this text's walks alone
set_option linter.unusedVariables false
set_option linter.unusedSimpArgs false
theorem valsOf_none (l : List S78) (t : Int) (h : t ∉ tagsOf l) : valsOf l t = none := by
  unfold valsOf
  rw [List.find?_eq_none.2 (fun x hx => by
    intro e
    exact h (List.mem_map.2 ⟨x, hx, by simpa using e⟩))]
  rfl
theorem dupL_no : ∀ (l seen : List S78), (tagsOf (seen ++ l)).Nodup → dupL seen l = false
  | [], _, _ => rfl
  | x :: r, seen, h => by
    have hx : x.f0 ∉ tagsOf seen := by
      intro hm
      have h2 : (tagsOf seen ++ x.f0 :: tagsOf r).Nodup := by unfold tagsOf at h ⊢; simpa using h
      exact (List.nodup_append.1 h2).2.2 _ hm _ List.mem_cons_self rfl
    rw [dupL_cons, if_neg (by rw [valsOf_none seen _ hx]; decide)]
    exact dupL_no r (seen ++ [x]) (by rw [List.append_assoc]; exact h)
theorem readB_formed (L : List S78) (hn : (tagsOf L).Nodup) (h0 : 0 < L.length) (h35 : (rd_T78 L 0).f0 = 35) (hpos : ∀ x ∈ L, 0 ≤ x.f0) (he : (allFormsL (L.map pairF)).2 = 0) :
    readB ⟨(allFormsL (L.map pairF)).1.toArray⟩ = (some (formOf L), 0) := by
  unfold allFormsL at he ⊢
  by_cases c : 64 < (L.map pairF).length
  · rw [if_pos c] at he; simp at he
  rw [if_neg c] at he ⊢
  have hf := fieldsL_formed (L.map pairF) 0 0 he (by omega)
  have hb : fieldsB ⟨(formsL (L.map pairF)).1.toArray⟩ = L := by
    unfold fieldsB
    rw [show (⟨(formsL (L.map pairF)).1.toArray⟩ : ByteArray).data.toList = (formsL (L.map pairF)).1 by simp, hf]
    simp only [List.map_map]
    conv => rhs; rw [← List.map_id L]
    apply List.map_congr_left
    intro x hx
    show mkF (readF (pairF x)) = x
    have := hpos x hx
    unfold mkF readF pairF
    simp only
    rw [Int.toNat_of_nonneg this]
  unfold readB
  rw [hb, show (⟨(formsL (L.map pairF)).1.toArray⟩ : ByteArray).data.toList = (formsL (L.map pairF)).1 by simp, hf]
  simp only
  rw [if_neg (by simp), if_neg (fun h => h.elim (fun h => by omega) (fun h => h h35)), if_neg (by rw [dupL_no L [] (by simpa using hn)]; decide)]
theorem may_cons (b : UInt8) (h : b.toNat < 128) (hm : mayB b.toNat = true) (t : List UInt8) : allMay (b :: t) = allMay t := by
  rw [allMay_cons _ (by simp), dec_ascii _ _ h, hm]
  simp
theorem allMay_digs : ∀ (ds : List UInt8), (∀ x ∈ ds, isDig x) → allMay ds = true
  | [], _ => allMay_nil
  | b :: t, h => by
    have hb := h b List.mem_cons_self
    unfold isDig at hb
    rw [may_cons b (by omega) (by rw [mayB_eq]; omega)]
    exact allMay_digs t (fun x hx => h x (List.mem_cons_of_mem _ hx))
theorem nameL_may (n : Nat) : ∀ (l : List UInt8) (c : Nat), l.length ≤ n → c ≤ 20 → nameL l c = true → allMay l = true ∧ l.length ≤ 4 * (20 - c) := by
  induction n with
  | zero => intro l c h _ _; rw [List.eq_nil_of_length_eq_zero (show l.length = 0 by omega)]; exact ⟨allMay_nil, Nat.zero_le _⟩
  | succ n ih =>
    intro l c h hc hn
    by_cases hl : l = []
    · rw [hl]; exact ⟨allMay_nil, Nat.zero_le _⟩
    by_cases h20 : 20 ≤ c
    · rw [nameL_full l hl c h20] at hn; cases hn
    cases hm : mayN (dec l).1 with
    | false => rw [nameL_bad l hl c hm] at hn; cases hn
    | true =>
      rw [nameL_go l hl c (by omega) hm] at hn
      have hw := dec_width l
      have hw4 := dec_width4 l
      have hp := List.length_pos_iff.2 hl
      have h2 := ih (l.drop (dec l).2) (c + 1) (by rw [List.length_drop]; omega) (by omega) hn
      rw [List.length_drop] at h2
      rw [allMay_cons l hl, h2.1]
      have := (mayN_eq _).1 hm
      refine ⟨?_, by omega⟩
      rw [show mayB (dec l).1 = true from (mayB_eq _).2 (by omega)]; rfl
theorem nameL_value {l : List UInt8} (h : nameL l 0 = true) : valueL l = true ∧ l.length ≤ 80 := by
  obtain ⟨h1, h2⟩ := nameL_may l.length l 0 (Nat.le_refl _) (by omega) h
  have h3 : 1 ≤ l.length := by
    rcases Nat.eq_zero_or_pos l.length with g | g
    · rw [List.eq_nil_of_length_eq_zero g, nameL_nil] at h; simp at h
    · exact g
  refine ⟨?_, by omega⟩
  unfold valueL
  rw [h1, decide_eq_true h3, decide_eq_true (show l.length ≤ 512 by omega)]; rfl
theorem digs_value (n : Nat) (h : n ≤ 9223372036854775807) : valueL (digitsN n) = true := by
  unfold valueL
  rw [allMay_digs _ (digitsN_dig n), decide_eq_true (digitsN_pos n), decide_eq_true (show (digitsN n).length ≤ 512 by have := digitsN_len 19 n (by omega); omega)]; rfl
theorem formL_good (t : Int) (v : List UInt8) (h1 : 1 ≤ t) (h2 : t ≤ 99999) (hv : valueL v = true) : formL t v = (digitsN t.toNat ++ 61 :: (v ++ [1]), 0) := by
  unfold formL
  rw [if_neg (by omega), if_pos hv]
def fieldL (f : Int × List UInt8) : List UInt8 := digitsN f.1.toNat ++ 61 :: (f.2 ++ [1])
def goodF (f : Int × List UInt8) : Prop := 1 ≤ f.1 ∧ f.1 ≤ 99999 ∧ valueL f.2 = true
theorem formsL_good : ∀ l : List (Int × List UInt8), (∀ f ∈ l, goodF f) → formsL l = ((l.map fieldL).flatten, 0)
  | [], _ => rfl
  | f :: r, h => by
    obtain ⟨h1, h2, h3⟩ := h f List.mem_cons_self
    have ih := formsL_good r (fun x hx => h x (List.mem_cons_of_mem _ hx))
    unfold formsL
    rw [formL_good f.1 f.2 h1 h2 h3, ih, if_neg (by simp), if_neg (by simp)]
    rfl
theorem allFormsL_good (l : List (Int × List UInt8)) (hl : l.length ≤ 64) (h : ∀ f ∈ l, goodF f) : allFormsL l = ((l.map fieldL).flatten, 0) := by
  unfold allFormsL
  rw [if_neg (by omega)]
  exact formsL_good l h
theorem goodF_name (t : Int) (s : ByteArray) (h1 : 1 ≤ t) (h2 : t ≤ 99999) (h : nameL s.data.toList 0 = true) : goodF (t, s.data.toList) := ⟨h1, h2, (nameL_value h).1⟩
theorem goodF_num (t n : Int) (h1 : 1 ≤ t) (h2 : t ≤ 99999) (h3 : n ≤ 9223372036854775807) : goodF (t, (digitsB n).data.toList) := ⟨h1, h2, by rw [digitsB_list]; exact digs_value _ (by omega)⟩
theorem goodF_one (t : Int) (b : UInt8) (h1 : 1 ≤ t) (h2 : t ≤ 99999) (hb : b.toNat < 128) (hm : mayB b.toNat = true) : goodF (t, (⟨#[b]⟩ : ByteArray).data.toList) := ⟨h1, h2, by
  unfold valueL
  show (decide (1 ≤ [b].length) && (decide ([b].length ≤ 512) && allMay [b])) = true
  rw [may_cons b hb hm, allMay_nil]; rfl⟩
theorem numP_digs (n : Nat) (h : n ≤ 9223372036854775807) : numP (digitsN n) = (n, 0) := by
  have hne := digitsN_ne n
  have hv : valFrom 0 (digitsN n) = n := by rw [valFrom_zero, valOf_digitsN]
  unfold numP
  rw [if_neg (by
    rintro (g | ⟨g1, g2⟩)
    · exact hne g
    · by_cases c : n < 10
      · rw [digitsN_small c] at g2; simp at g2
      · match hd : digitsN n with
        | [] => exact hne hd
        | b :: t =>
          rw [hd] at g1
          have := digitsN_head n (by omega) b t hd
          simp at g1
          exact this (by rw [g1]; rfl))]
  have := noP_all (digitsN n) 0 (digitsN_dig n) (by omega)
  rw [hv] at this
  exact this
theorem ask_name_ok {F : FormS} {t : Int} {s : ByteArray} (he : F.e = 0) (hv : F.vals t = some s) (hn : nameL s.data.toList 0 = true) : askL takeName ⟨#[]⟩ F t = (s, F.mark t) := by
  rw [askL_some takeName _ F t he hv]
  have : takeName s = (s, 0) := by unfold takeName; rw [if_pos hn]
  rw [this, if_pos rfl]
theorem ask_int_ok {F : FormS} {t lo hi n : Int} (he : F.e = 0) (hv : F.vals t = some (digitsB n)) (h0 : 0 ≤ n) (h9 : n ≤ 9223372036854775807) (hl : lo ≤ n) (hh : n ≤ hi) : askL (fun s => takeInt s lo hi) 0 F t = (n, F.mark t) := by
  rw [askL_some (fun s => takeInt s lo hi) _ F t he hv]
  have : takeInt (digitsB n) lo hi = (n, 0) := by
    unfold takeInt
    rw [digitsB_list, numP_digs _ (by omega)]
    simp only
    rw [if_neg (by rintro ⟨_, h | h⟩ <;> omega), Int.toNat_of_nonneg h0]; rfl
  simp only [this]
  rw [if_pos trivial]
theorem doneL_ok {F : FormS} (h0 : F.e = 0) (h : spareL F.asked F.order = (0, 0)) : doneL F = (0, 0) := by
  unfold doneL
  rw [if_neg (by simpa using h0), h]
theorem dg35 : digitsN 35 = [51, 53] := by rw [digitsN_step (n := 35) (by decide), digitsN_small (n := 35 / 10) (by decide)]; rfl
theorem dg11 : digitsN 11 = [49, 49] := by rw [digitsN_step (n := 11) (by decide), digitsN_small (n := 11 / 10) (by decide)]; rfl
theorem dg34 : digitsN 34 = [51, 52] := by rw [digitsN_step (n := 34) (by decide), digitsN_small (n := 34 / 10) (by decide)]; rfl
end Go.Proofs.YtgfigkfcmkdjdaaDoor.B
end
section
namespace Go.Proofs.YtgfigkfcmkdjdaaDoor.B
open Go.RowKit Go.Proofs.YtgfigkfcmkdjdaaDoorW.PrintWords Go.Proofs.YtgfigkfcmkdjdaaDoorW.PrintLast Go.Proofs.YtgfigkfcmkdjdaaDoorW.PrintMore
attribute [local go_sem] max2_int min2_int max_two min_two max_three min_three max_four min_four   -- for this text's walks alone
set_option linter.unusedVariables false
set_option linter.unusedSimpArgs false
def repW (k : Int) : ByteArray := if k = 1 then ⟨#[48]⟩ else if k = 2 then ⟨#[52]⟩ else if k = 3 then ⟨#[53]⟩ else if k = 4 then ⟨#[56]⟩ else if k = 5 then ⟨#[70]⟩ else ⟨#[72]⟩
def repF (a : RepV) : List S78 :=
  if a.f0 = 7 then [⟨35, ⟨#[57]⟩⟩, ⟨34, digitsB a.f1⟩, ⟨11, a.f2⟩] else
  [⟨35, ⟨#[56]⟩⟩, ⟨34, digitsB a.f1⟩, ⟨11, a.f2⟩, ⟨17, a.f3⟩, ⟨150, repW a.f0⟩] ++ (if a.f0 = 5 then [⟨32, digitsB a.f4⟩, ⟨31, digitsB a.f5⟩] else []) ++ (if a.f0 = 6 then [⟨19, a.f6⟩] else [])
def encP (a : RepV) : ByteArray × Int := if rightP a = true then (⟨(allFormsL ((repF a).map pairF)).1.toArray⟩, ((allFormsL ((repF a).map pairF)).2 : Int)) else (⟨#[]⟩, 2)
end Go.Proofs.YtgfigkfcmkdjdaaDoor.B
end
section
namespace Go.Proofs.YtgfigkfcmkdjdaaDoor.B
open Go.RowKit Go.Proofs.YtgfigkfcmkdjdaaDoorW.PrintWords Go.Proofs.YtgfigkfcmkdjdaaDoorW.PrintLast Go.Proofs.YtgfigkfcmkdjdaaDoorW.PrintMore
attribute [local go_sem] max2_int min2_int max_two min_two max_three min_three max_four min_four   -- for this text's walks alone
set_option linter.unusedVariables false
set_option linter.unusedSimpArgs false
def rwordB (k : Int) : ByteArray := if k = 0 then ⟨#[]⟩ else if k = 1 then ⟨#[48]⟩ else if k = 2 then ⟨#[52]⟩ else if k = 3 then ⟨#[53]⟩ else if k = 4 then ⟨#[56]⟩ else if k = 5 then ⟨#[70]⟩ else ⟨#[72]⟩
set_option maxRecDepth 100000 in
theorem ref14_word_walk (k : Int) (h : 0 ≤ k ∧ k ≤ 6) (w : World) : Calls Tryd.prog 82 #[.int .i64 k] w fun e w' => e = .returned (.string (rwordB k)) ∧ Below w.heap.size w w' := by
  rcases (show k = 0 ∨ k = 1 ∨ k = 2 ∨ k = 3 ∨ k = 4 ∨ k = 5 ∨ k = 6 by omega) with rfl | rfl | rfl | rfl | rfl | rfl | rfl
  all_goals
    clear h
    go_enter Tryd.func82, Tryd.ntmps82
    go_wp2
    go_ret
    exact ⟨rfl, (Below.refl _ _).alloc (Nat.le_refl _) _⟩
end Go.Proofs.YtgfigkfcmkdjdaaDoor.B
end
