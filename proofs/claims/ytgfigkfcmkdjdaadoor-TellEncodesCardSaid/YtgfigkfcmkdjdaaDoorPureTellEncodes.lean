/- Any tell is right just if the document says so, and has the document's body. -/
import Derived.Test.YtgfigkfcmkdjdaaDoorOwnTellEncodes
namespace Go.Proofs.YtgfigkfcmkdjdaaDoor.Pure
open Go.RowKit Go.Proofs.YtgfigkfcmkdjdaaDoor.B Go.Proofs.YtgfigkfcmkdjdaaDoorW.PrintWords Go.Proofs.YtgfigkfcmkdjdaaDoorW.PrintLast Go.Proofs.YtgfigkfcmkdjdaaDoor.tellEncodes
set_option linter.unusedVariables false
set_option linter.unusedSimpArgs false
theorem in_f (x l h : Int) : spigotref13_in.f x l h = some (decide (l ≤ x ∧ x ≤ h)) := by
  unfold spigotref13_in.f
  by_cases c : x ≥ l
  · rw [if_pos c]; simp [show l ≤ x from c]
  · rw [if_neg c]; simp [show ¬ l ≤ x from c]
theorem valid_f (s : ByteArray) (h : s.size ≤ 200) : spigotref04_Valid.f s = some (nameL s.data.toList 0) := by
  unfold spigotref04_Valid.f; rw [if_pos (by omega)]
theorem kept_ne (a k : TellV) : (!(a.f0 == k.f0) || (!(a.f1.toList == k.f1.toList) || (!(a.f2.toList == k.f2.toList) || (!(a.f3 == k.f3) || (!(a.f4 == k.f4) || (!(a.f5 == k.f5) || (!(a.f6 == k.f6) || (!(a.f7 == k.f7) || (!(a.f8 == k.f8) || (!(a.f9 == k.f9))))))))))) = !decide (a = k) := by
  have e : ∀ s t : ByteArray, (s.toList == t.toList) = decide (s = t) := fun s t => by
    rw [ByteArray.toList_eq, ByteArray.toList_eq, Bool.eq_iff_iff, beq_iff_eq, decide_eq_true_eq]
    exact ⟨fun h => ba_ext h, fun h => by rw [h]⟩
  rw [e, e]
  obtain ⟨a0, a1, a2, a3, a4, a5, a6, a7, a8, a9⟩ := a
  obtain ⟨k0, k1, k2, k3, k4, k5, k6, k7, k8, k9⟩ := k
  rw [Bool.eq_iff_iff]
  simp only [TellV.mk.injEq, Bool.or_eq_true, Bool.not_eq_true', beq_eq_false_iff_ne, decide_eq_false_iff_not]
  by_cases c0 : a0 = k0 <;> by_cases c1 : a1 = k1 <;> by_cases c2 : a2 = k2 <;> simp [c0, c1, c2] <;> (by_cases c3 : a3 = k3 <;> by_cases c4 : a4 = k4 <;> by_cases c5 : a5 = k5 <;> simp [c3, c4, c5] <;> omega)
/-- The document's word, as one bool. -/
def docR (a : TellV) : Bool := decide (1 ≤ a.f0 ∧ a.f0 ≤ 4) && (decide (a = keptT a) && (decide (0 ≤ a.f9 ∧ a.f9 ≤ 999) && (decide (0 ≤ a.f3 ∧ a.f3 ≤ 9) && (decide (0 ≤ a.f8 ∧ a.f8 ≤ 99999) && ((if a.f0 < 3 then nameL a.f1.data.toList 0 else true) && ((if a.f0 = 1 then nameL a.f2.data.toList 0 else true) && (decide (0 ≤ a.f4 ∧ a.f4 ≤ 1099511627776) && (decide (0 ≤ a.f5 ∧ a.f5 ≤ 1099511627776) && (decide (0 ≤ a.f6 ∧ a.f6 ≤ 1099511627776) && decide (0 ≤ a.f7 ∧ a.f7 ≤ 1099511627776))))))))))
theorem docR_eq (a : TellV) : rightT a = docR a := by
  rw [Bool.eq_iff_iff, rightT_iff]
  obtain ⟨f0, f1, f2, f3, f4, f5, f6, f7, f8, f9⟩ := a
  unfold docR keptT R1 R2 R34
  simp only [Bool.and_eq_true, decide_eq_true_eq]
  by_cases c1 : f0 = 1
  · subst c1
    simp
    constructor
    · rintro ⟨a, b, c, d, e, f, g, h, rfl⟩; simp_all
    · rintro ⟨a, b, c, d, e, f, g, h⟩; simp_all
  by_cases c2 : f0 = 2
  · subst c2
    simp
    constructor
    · rintro ⟨a, b, c, rfl, rfl, rfl, rfl, rfl, rfl⟩; simp_all
    · rintro ⟨a, b, c, d, e, f⟩; simp_all
  by_cases c3 : f0 = 3
  · subst c3
    simp
    constructor
    · rintro ⟨a, b, rfl, rfl, rfl, rfl, rfl, rfl, rfl⟩; simp_all
    · rintro ⟨a, b, c, d⟩; simp_all
  by_cases c4 : f0 = 4
  · subst c4
    simp
    constructor
    · rintro ⟨a, b, rfl, rfl, rfl, rfl, rfl, rfl, rfl⟩; simp_all
    · rintro ⟨a, b, c, d⟩; simp_all
  · constructor
    · rintro (h | h | h | h)
      · exact absurd h.1 c1
      · exact absurd h.1 c2
      · exact absurd h.1 c3
      · exact absurd h.1 c4
    · rintro ⟨h, _⟩; omega
theorem ref_j1 (v : TellV) : spigotref13_Right.j1 1 false v.f0 v.f1 v.f2 v.f3 v.f4 v.f5 v.f6 v.f7 v.f8 v.f9 = some (decide (0 ≤ v.f4 ∧ v.f4 ≤ 1099511627776) && (decide (0 ≤ v.f5 ∧ v.f5 ≤ 1099511627776) && (decide (0 ≤ v.f6 ∧ v.f6 ≤ 1099511627776) && decide (0 ≤ v.f7 ∧ v.f7 ≤ 1099511627776)))) := by
  rw [spigotref13_Right.j1]
  rw [if_neg (by decide), in_f, in_f, in_f, in_f]
  simp only [Option.bind_some]
  cases decide (0 ≤ v.f4 ∧ v.f4 ≤ 1099511627776)
  · rfl
  cases decide (0 ≤ v.f5 ∧ v.f5 ≤ 1099511627776)
  · rfl
  cases decide (0 ≤ v.f6 ∧ v.f6 ≤ 1099511627776)
  · rfl
  cases decide (0 ≤ v.f7 ∧ v.f7 ≤ 1099511627776) <;> rfl
theorem ref_j1t (v : TellV) : spigotref13_Right.j1 1 true v.f0 v.f1 v.f2 v.f3 v.f4 v.f5 v.f6 v.f7 v.f8 v.f9 = some false := by
  rw [spigotref13_Right.j1]
  rw [if_pos rfl]
theorem ref_j0t (v : TellV) : spigotref13_Right.j0 2 true v.f0 v.f1 v.f2 v.f3 v.f4 v.f5 v.f6 v.f7 v.f8 v.f9 = some false := by
  rw [spigotref13_Right.j0]
  rw [if_pos rfl]
theorem ref_j0 (v : TellV) (h1 : v.f1.size ≤ 200) (h2 : v.f2.size ≤ 200) : spigotref13_Right.j0 2 false v.f0 v.f1 v.f2 v.f3 v.f4 v.f5 v.f6 v.f7 v.f8 v.f9 = some ((if v.f0 < 3 then nameL v.f1.data.toList 0 else true) && ((if v.f0 = 1 then nameL v.f2.data.toList 0 else true) && (decide (0 ≤ v.f4 ∧ v.f4 ≤ 1099511627776) && (decide (0 ≤ v.f5 ∧ v.f5 ≤ 1099511627776) && (decide (0 ≤ v.f6 ∧ v.f6 ≤ 1099511627776) && decide (0 ≤ v.f7 ∧ v.f7 ≤ 1099511627776)))))) := by
  rw [spigotref13_Right.j0]
  rw [if_neg (by decide), valid_f _ h1, valid_f _ h2]
  simp only [Option.bind_some]
  have j1 := ref_j1 v
  have j1t := ref_j1t v
  by_cases c3 : v.f0 < 3
  · rw [if_pos c3, if_pos c3]
    cases nameL v.f1.data.toList 0
    · rw [if_neg (by decide), j1t]; rfl
    · rw [if_pos rfl]
      by_cases c1 : v.f0 = 1
      · rw [if_pos c1, if_pos c1]
        cases nameL v.f2.data.toList 0
        · exact j1t
        · exact j1
      · rw [if_neg c1, if_neg c1]
        exact j1
  · rw [if_neg c3, if_neg c3]
    by_cases c1 : v.f0 = 1
    · omega
    · rw [if_neg c1, if_neg c1]
      exact j1
theorem ref_right (v : TellV) (h1 : v.f1.size ≤ 200) (h2 : v.f2.size ≤ 200) : spigotref13_Right.f 2 v.f0 v.f1 v.f2 v.f3 v.f4 v.f5 v.f6 v.f7 v.f8 v.f9 = some (rightT v) := by
  rw [docR_eq]
  have j0 := ref_j0 v h1 h2
  have j0t := ref_j0t v
  have hk := kept_ne v (keptT v)
  unfold spigotref13_Right.f spigotref13_kept.f
  rw [in_f, in_f, in_f, in_f]
  simp only [Option.bind_some]
  unfold docR
  cases decide (1 ≤ v.f0 ∧ v.f0 ≤ 4)
  · rw [if_neg (by decide), j0t]; rfl
  rw [if_pos rfl]
  rw [hk]
  cases decide (v = keptT v)
  · rw [if_pos (by decide), j0t]; rfl
  rw [if_neg (by decide)]
  cases decide (0 ≤ v.f9 ∧ v.f9 ≤ 999)
  · rw [if_neg (by decide), j0t]; rfl
  rw [if_pos rfl]
  cases decide (0 ≤ v.f3 ∧ v.f3 ≤ 9)
  · rw [if_neg (by decide), j0t]; rfl
  rw [if_pos rfl]
  cases decide (0 ≤ v.f8 ∧ v.f8 ≤ 99999)
  · exact j0t
  · exact j0
/-! ### The document's body -/
theorem put_f (t v : ByteArray) (ht : t.size ≤ 10) (hv : v.size ≤ 200) : ∃ p, spigotref12_Put.f t v = some p ∧ p.size ≤ 300 ∧ p.data.toList = t.data.toList ++ 61 :: (v.data.toList ++ [1]) := by
  refine ⟨((t ++ (⟨#[61]⟩ : ByteArray)) ++ v) ++ (⟨#[1]⟩ : ByteArray), ?_, ?_, by simp⟩
  · have z1 : (⟨#[61]⟩ : ByteArray).size = 1 := rfl
    unfold spigotref12_Put.f
    rw [if_pos (by omega), if_pos (by rw [ByteArray.size_append]; omega), if_pos (by rw [ByteArray.size_append, ByteArray.size_append]; omega)]
  · have z1 : (⟨#[61]⟩ : ByteArray).size = 1 := rfl
    have z2 : (⟨#[1]⟩ : ByteArray).size = 1 := rfl
    rw [ByteArray.size_append, ByteArray.size_append, ByteArray.size_append]; omega
theorem number_f (t : ByteArray) (n : Int) (ht : t.size ≤ 10) (h0 : 0 ≤ n) (h9 : n ≤ 1099511627776) : ∃ p, spigotref12_Number.f t n = some p ∧ p.size ≤ 300 ∧ p.data.toList = t.data.toList ++ 61 :: ((digitsB n).data.toList ++ [1]) := by
  obtain ⟨p, h1, h2, h3⟩ := put_f t (digitsB n) ht (by have := digitsB_20 n (by omega); omega)
  refine ⟨p, ?_, h2, h3⟩
  unfold spigotref12_Number.f spigotref08_Digits.f
  rw [if_pos ⟨h0, by omega⟩]
  simp only [Option.bind_some]
  rw [h1]; rfl
theorem fl35 (v : List UInt8) : fieldL (35, v) = [51, 53] ++ 61 :: (v ++ [1]) := by unfold fieldL; rw [show ((35 : Int), v).1.toNat = 35 from rfl, dg35]
theorem fl11 (v : List UInt8) : fieldL (11, v) = [49, 49] ++ 61 :: (v ++ [1]) := by unfold fieldL; rw [show ((11 : Int), v).1.toNat = 11 from rfl, dg11]
theorem fl17 (v : List UInt8) : fieldL (17, v) = [49, 55] ++ 61 :: (v ++ [1]) := by unfold fieldL; rw [show ((17 : Int), v).1.toNat = 17 from rfl, dg17]
theorem fl39 (v : List UInt8) : fieldL (39, v) = [51, 57] ++ 61 :: (v ++ [1]) := by unfold fieldL; rw [show ((39 : Int), v).1.toNat = 39 from rfl, dg39]
theorem fl32 (v : List UInt8) : fieldL (32, v) = [51, 50] ++ 61 :: (v ++ [1]) := by unfold fieldL; rw [show ((32 : Int), v).1.toNat = 32 from rfl, dg32]
theorem fl31 (v : List UInt8) : fieldL (31, v) = [51, 49] ++ 61 :: (v ++ [1]) := by unfold fieldL; rw [show ((31 : Int), v).1.toNat = 31 from rfl, dg31]
theorem fl14 (v : List UInt8) : fieldL (14, v) = [49, 52] ++ 61 :: (v ++ [1]) := by unfold fieldL; rw [show ((14 : Int), v).1.toNat = 14 from rfl, dg14]
theorem fl151 (v : List UInt8) : fieldL (151, v) = [49, 53, 49] ++ 61 :: (v ++ [1]) := by unfold fieldL; rw [show ((151 : Int), v).1.toNat = 151 from rfl, dg151]
theorem fl103 (v : List UInt8) : fieldL (103, v) = [49, 48, 51] ++ 61 :: (v ++ [1]) := by unfold fieldL; rw [show ((103 : Int), v).1.toNat = 103 from rfl, dg103]
theorem fl371 (v : List UInt8) : fieldL (371, v) = [51, 55, 49] ++ 61 :: (v ++ [1]) := by unfold fieldL; rw [show ((371 : Int), v).1.toNat = 371 from rfl, dg371]
theorem fl373 (v : List UInt8) : fieldL (373, v) = [51, 55, 51] ++ 61 :: (v ++ [1]) := by unfold fieldL; rw [show ((373 : Int), v).1.toNat = 373 from rfl, dg373]
theorem fl380 (v : List UInt8) : fieldL (380, v) = [51, 56, 48] ++ 61 :: (v ++ [1]) := by unfold fieldL; rw [show ((380 : Int), v).1.toNat = 380 from rfl, dg380]
theorem form_of (v : TellV) (h : rightT v = true) : ∃ s, spigotref13_Form.f v.f0 v.f1 v.f2 v.f3 v.f4 v.f5 v.f6 v.f7 v.f8 v.f9 = some s ∧ s = (encT v).1 ∧ s.size ≤ 40000 := by
  have hz := encT_size v
  have hs := rightT_sizes v h
  rw [encT_right v h] at hz ⊢
  obtain ⟨f0, f1, f2, f3, f4, f5, f6, f7, f8, f9⟩ := v
  simp only at hs
  suffices g : ∃ s, spigotref13_Form.f f0 f1 f2 f3 f4 f5 f6 f7 f8 f9 = some s ∧ s.data.toList = (((encF ⟨f0, f1, f2, f3, f4, f5, f6, f7, f8, f9⟩).map pairF).map fieldL).flatten by
    obtain ⟨s, g1, g2⟩ := g
    have e : s = ⟨((((encF ⟨f0, f1, f2, f3, f4, f5, f6, f7, f8, f9⟩).map pairF).map fieldL).flatten).toArray⟩ := ba_ext (by rw [g2])
    exact ⟨s, g1, e, by rw [e]; exact hz⟩
  clear hz
  rcases (rightT_iff _).1 h with h | h | h | h
  · obtain ⟨h0, n1, n2, h3, h4, h5, h6, h7, h9, h8⟩ := h
    simp only at h0 n1 n2 h3 h4 h5 h6 h7 h9 h8
    subst h0 h8
    obtain ⟨p1, e1, z1, l1⟩ := put_f ⟨#[49, 49]⟩ f1 (by decide) (by omega)
    obtain ⟨p2, e2, z2, l2⟩ := put_f ⟨#[49, 55]⟩ f2 (by decide) (by omega)
    obtain ⟨p3, e3, z3, l3⟩ := number_f ⟨#[51, 57]⟩ f3 (by decide) (by omega) (by omega)
    obtain ⟨p4, e4, z4, l4⟩ := number_f ⟨#[51, 50]⟩ f4 (by decide) (by omega) (by omega)
    obtain ⟨p5, e5, z5, l5⟩ := number_f ⟨#[51, 49]⟩ f5 (by decide) (by omega) (by omega)
    obtain ⟨p6, e6, z6, l6⟩ := number_f ⟨#[49, 52]⟩ f6 (by decide) (by omega) (by omega)
    obtain ⟨p7, e7, z7, l7⟩ := number_f ⟨#[49, 53, 49]⟩ f7 (by decide) (by omega) (by omega)
    obtain ⟨p8, e8, z8, l8⟩ := number_f ⟨#[49, 48, 51]⟩ f9 (by decide) (by omega) (by omega)
    have z0 : (⟨#[51, 53, 61, 56, 1]⟩ : ByteArray).size = 5 := rfl
    unfold spigotref13_Form.f
    rw [if_pos rfl, e1, e2, e3, e4, e5, e6, e7, e8]
    simp only [Option.bind_some, ByteArray.size_append]
    rw [if_pos (by omega), if_pos (by omega), if_pos (by omega), if_pos (by omega), if_pos (by omega), if_pos (by omega), if_pos (by omega), if_pos (by omega)]
    refine ⟨_, rfl, ?_⟩
    rw [show encF ⟨1, f1, f2, f3, f4, f5, f6, f7, 0, f9⟩ = [⟨35, ⟨#[56]⟩⟩, ⟨11, f1⟩, ⟨17, f2⟩, ⟨39, digitsB f3⟩, ⟨32, digitsB f4⟩, ⟨31, digitsB f5⟩, ⟨14, digitsB f6⟩, ⟨151, digitsB f7⟩, ⟨103, digitsB f9⟩] from rfl]
    simp only [List.map_cons, List.map_nil, pairF, List.flatten_cons, List.flatten_nil, fl35, fl11, fl17, fl39, fl32, fl31, fl14, fl151, fl103, ByteArray.toList_data_append, l1, l2, l3, l4, l5, l6, l7, l8]
    simp
  · obtain ⟨h0, n1, h3, h9, h2, h4, h5, h6, h7, h8⟩ := h
    simp only at h0 n1 h3 h9 h2 h4 h5 h6 h7 h8
    subst h0 h2 h4 h5 h6 h7 h8
    obtain ⟨p1, e1, z1, l1⟩ := put_f ⟨#[49, 49]⟩ f1 (by decide) (by omega)
    obtain ⟨p3, e3, z3, l3⟩ := number_f ⟨#[51, 57]⟩ f3 (by decide) (by omega) (by omega)
    obtain ⟨p8, e8, z8, l8⟩ := number_f ⟨#[49, 48, 51]⟩ f9 (by decide) (by omega) (by omega)
    have z0 : (⟨#[51, 53, 61, 57, 1]⟩ : ByteArray).size = 5 := rfl
    unfold spigotref13_Form.f
    rw [if_neg (by decide), if_pos rfl, e1, e3, e8]
    simp only [Option.bind_some, ByteArray.size_append]
    rw [if_pos (by omega), if_pos (by omega), if_pos (by omega)]
    refine ⟨_, rfl, ?_⟩
    rw [show encF ⟨2, f1, ⟨#[]⟩, f3, 0, 0, 0, 0, 0, f9⟩ = [⟨35, ⟨#[57]⟩⟩, ⟨11, f1⟩, ⟨39, digitsB f3⟩, ⟨103, digitsB f9⟩] from rfl]
    simp only [List.map_cons, List.map_nil, pairF, List.flatten_cons, List.flatten_nil, fl35, fl11, fl39, fl103, ByteArray.toList_data_append, l1, l3, l8]
    simp
  · obtain ⟨h0, h8, h9, h1, h2, h3, h4, h5, h6, h7⟩ := h
    simp only at h0 h8 h9 h1 h2 h3 h4 h5 h6 h7
    subst h0 h1 h2 h3 h4 h5 h6 h7
    obtain ⟨p1, e1, z1, l1⟩ := number_f ⟨#[51, 55, 49]⟩ f8 (by decide) (by omega) (by omega)
    obtain ⟨p2, e2, z2, l2⟩ := number_f ⟨#[51, 55, 51]⟩ f9 (by decide) (by omega) (by omega)
    have z0 : (⟨#[51, 53, 61, 51, 1]⟩ : ByteArray).size = 5 := rfl
    unfold spigotref13_Form.f
    rw [if_neg (by decide), if_neg (by decide), if_pos rfl, e1, e2]
    simp only [Option.bind_some, ByteArray.size_append]
    rw [if_pos (by omega), if_pos (by omega)]
    refine ⟨_, rfl, ?_⟩
    rw [show encF ⟨3, ⟨#[]⟩, ⟨#[]⟩, 0, 0, 0, 0, 0, f8, f9⟩ = [⟨35, ⟨#[51]⟩⟩, ⟨371, digitsB f8⟩, ⟨373, digitsB f9⟩] from rfl]
    simp only [List.map_cons, List.map_nil, pairF, List.flatten_cons, List.flatten_nil, fl35, fl371, fl373, ByteArray.toList_data_append, l1, l2]
    simp
  · obtain ⟨h0, h8, h9, h1, h2, h3, h4, h5, h6, h7⟩ := h
    simp only at h0 h8 h9 h1 h2 h3 h4 h5 h6 h7
    subst h0 h1 h2 h3 h4 h5 h6 h7
    obtain ⟨p1, e1, z1, l1⟩ := number_f ⟨#[51, 55, 49]⟩ f8 (by decide) (by omega) (by omega)
    obtain ⟨p2, e2, z2, l2⟩ := number_f ⟨#[51, 56, 48]⟩ f9 (by decide) (by omega) (by omega)
    have z0 : (⟨#[51, 53, 61, 106, 1]⟩ : ByteArray).size = 5 := rfl
    unfold spigotref13_Form.f
    rw [if_neg (by decide), if_neg (by decide), if_neg (by decide), e1, e2]
    simp only [Option.bind_some, ByteArray.size_append]
    rw [if_pos (by omega), if_pos (by omega)]
    refine ⟨_, rfl, ?_⟩
    rw [show encF ⟨4, ⟨#[]⟩, ⟨#[]⟩, 0, 0, 0, 0, 0, f8, f9⟩ = [⟨35, ⟨#[106]⟩⟩, ⟨371, digitsB f8⟩, ⟨380, digitsB f9⟩] from rfl]
    simp only [List.map_cons, List.map_nil, pairF, List.flatten_cons, List.flatten_nil, fl35, fl371, fl380, ByteArray.toList_data_append, l1, l2]
    simp
theorem ref_enc (v : TellV) (h1 : v.f1.size ≤ 200) (h2 : v.f2.size ≤ 200) : spigotref13_Encode.f 2 v.f0 v.f1 v.f2 v.f3 v.f4 v.f5 v.f6 v.f7 v.f8 v.f9 = some (encT v) := by
  unfold spigotref13_Encode.f
  rw [ref_right v h1 h2]
  simp only [Option.bind_some]
  cases hr : rightT v with
  | false => rw [if_neg (by decide), encT_wrong v hr]
  | true =>
    obtain ⟨s, e1, e2, e3⟩ := form_of v hr
    rw [if_pos rfl, e1]
    simp only [Option.bind_some]
    have hf : (fieldsL s.data.toList 0 0).2.2 = 0 := by
      have h := fields_formed ((encF v).map pairF) (by rw [(enc_ok v hr).form])
      rw [(enc_ok v hr).form] at h
      rw [e2, encT_right v hr]
      exact h
    unfold spigotref08_Fields.f
    rw [if_pos (by unfold big; omega)]
    simp only [Option.bind_some]
    rw [if_pos (by rw [hf]; rfl), e2, encT_right v hr]
theorem TellEncodes : Go.Proofs.YtgfigkfcmkdjdaaDoor.tellEncodes.P := by
  intro s0 hok
  refine ⟨2, ?_⟩
  unfold spigotlaw13_TellEncodes.f spigotlaw13_awake.f spigotlaw13_few.f
  simp only [Option.bind_some]
  rw [if_pos trivial]
  by_cases c1 : (s0.f1.size : Int) ≤ 200
  · rw [if_pos c1]
    simp only [Option.bind_some]
    by_cases c2 : (s0.f2.size : Int) ≤ 200
    · rw [if_pos (decide_eq_true c2)]
      have r1 := ref_right ⟨s0.f0, s0.f1, s0.f2, s0.f3, s0.f4, s0.f5, s0.f6, s0.f7, s0.f8, s0.f9⟩ (by show s0.f1.size ≤ 200; omega) (by show s0.f2.size ≤ 200; omega)
      have r2 := ref_enc ⟨s0.f0, s0.f1, s0.f2, s0.f3, s0.f4, s0.f5, s0.f6, s0.f7, s0.f8, s0.f9⟩ (by show s0.f1.size ≤ 200; omega) (by show s0.f2.size ≤ 200; omega)
      simp only at r1 r2
      have r3 : tell_Encode.f s0.f0 s0.f1 s0.f2 s0.f3 s0.f4 s0.f5 s0.f6 s0.f7 s0.f8 s0.f9 = some (encT ⟨s0.f0, s0.f1, s0.f2, s0.f3, s0.f4, s0.f5, s0.f6, s0.f7, s0.f8, s0.f9⟩) := by unfold tell_Encode.f; rw [if_pos ⟨by omega, by omega⟩]
      have r4 : tell_Right.f s0.f0 s0.f1 s0.f2 s0.f3 s0.f4 s0.f5 s0.f6 s0.f7 s0.f8 s0.f9 = some (rightT ⟨s0.f0, s0.f1, s0.f2, s0.f3, s0.f4, s0.f5, s0.f6, s0.f7, s0.f8, s0.f9⟩) := by unfold tell_Right.f; rw [if_pos ⟨by omega, by omega⟩]
      unfold spigotlaw13_Plain.f
      rw [r3]
      simp only [Option.bind_some]
      rw [r2, r4, r1]
      simp
    · rw [if_neg (by rw [decide_eq_false c2]; decide)]
  · rw [if_neg c1]
    simp only [Option.bind_some]
    rw [if_neg (by decide)]

end Go.Proofs.YtgfigkfcmkdjdaaDoor.Pure
