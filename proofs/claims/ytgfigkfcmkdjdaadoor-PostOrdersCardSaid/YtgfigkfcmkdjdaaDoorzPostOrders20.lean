/- The functions that the law reaches, as plain Lean functions, and their contracts: texts merged. -/
import Derived.Laws.StructEq
import Derived.Test.YtgfigkfcmkdjdaaDoorzPostOrders3
import Derived.Test.YtgfigkfcmkdjdaaDoorzPostOrders0
import Derived.Test.YtgfigkfcmkdjdaaDoorzPostOrders1
import Derived.Test.YtgfigkfcmkdjdaaDoorzPostOrders2
import Derived.Test.YtgfigkfcmkdjdaaDoorzPostOrders4
import Derived.Test.YtgfigkfcmkdjdaaDoorzPostOrders5
import Derived.Test.YtgfigkfcmkdjdaaDoorzPostOrders6
import Derived.Test.YtgfigkfcmkdjdaaDoorzPostOrders7
import Derived.Test.YtgfigkfcmkdjdaaDoorzPostOrders8
import Derived.Test.YtgfigkfcmkdjdaaDoorzPostOrders9
import Derived.Test.YtgfigkfcmkdjdaaDoorzPostOrders10
import Derived.Test.YtgfigkfcmkdjdaaDoorzPostOrders11
import Derived.Test.YtgfigkfcmkdjdaaDoorzPostOrders12
import Derived.Test.YtgfigkfcmkdjdaaDoorzPostOrders13
import Derived.Test.YtgfigkfcmkdjdaaDoorzPostOrders14
import Derived.Test.YtgfigkfcmkdjdaaDoorzPostOrders15
import Derived.Test.YtgfigkfcmkdjdaaDoorzPostOrders16
import Derived.Test.YtgfigkfcmkdjdaaDoorzPostOrders19
section
namespace Go.Proofs.YtgfigkfcmkdjdaaDoor.B
open Go.RowKit Go.Proofs.YtgfigkfcmkdjdaaDoorW.PrintWords Go.Proofs.YtgfigkfcmkdjdaaDoorW.PrintLast Go.Proofs.YtgfigkfcmkdjdaaDoorW.PrintMore
attribute [local go_sem] max2_int min2_int max_two min_two max_three min_three max_four min_four   -- for this text's walks alone
set_option linter.unusedVariables false
set_option linter.unusedSimpArgs false
theorem putF_ok (t v : ByteArray) (ht : t.size ≤ 10) (hv : v.size ≤ 200) : ∃ p, spigotref12_Put.f t v = some p ∧ p.size ≤ 300 ∧ p.data.toList = t.data.toList ++ 61 :: (v.data.toList ++ [1]) := by
  refine ⟨((t ++ (⟨#[61]⟩ : ByteArray)) ++ v) ++ (⟨#[1]⟩ : ByteArray), ?_, ?_, by simp⟩
  · have z1 : (⟨#[61]⟩ : ByteArray).size = 1 := rfl
    unfold spigotref12_Put.f
    rw [if_pos (by omega), if_pos (by rw [ByteArray.size_append]; omega), if_pos (by rw [ByteArray.size_append, ByteArray.size_append]; omega)]
  · have z1 : (⟨#[61]⟩ : ByteArray).size = 1 := rfl
    have z2 : (⟨#[1]⟩ : ByteArray).size = 1 := rfl
    rw [ByteArray.size_append, ByteArray.size_append, ByteArray.size_append]; omega
theorem numF_ok (t : ByteArray) (n : Int) (ht : t.size ≤ 10) (h0 : 0 ≤ n) (h9 : n ≤ 1099511627776) : ∃ p, spigotref12_Number.f t n = some p ∧ p.size ≤ 300 ∧ p.data.toList = t.data.toList ++ 61 :: ((digitsB n).data.toList ++ [1]) := by
  obtain ⟨p, h1, h2, h3⟩ := putF_ok t (digitsB n) ht (by have := digitsB_20 n (by omega); omega)
  refine ⟨p, ?_, h2, h3⟩
  unfold spigotref12_Number.f spigotref08_Digits.f
  rw [if_pos ⟨h0, by omega⟩]
  simp only [Option.bind_some]
  rw [h1]; rfl
theorem gl35 (v : List UInt8) : fieldL (35, v) = [51, 53] ++ 61 :: (v ++ [1]) := by unfold fieldL; rw [show ((35 : Int), v).1.toNat = 35 from rfl, dg35]
theorem gl34 (v : List UInt8) : fieldL (34, v) = [51, 52] ++ 61 :: (v ++ [1]) := by unfold fieldL; rw [show ((34 : Int), v).1.toNat = 34 from rfl, dg34]
theorem gl11 (v : List UInt8) : fieldL (11, v) = [49, 49] ++ 61 :: (v ++ [1]) := by unfold fieldL; rw [show ((11 : Int), v).1.toNat = 11 from rfl, dg11]
theorem gl55 (v : List UInt8) : fieldL (55, v) = [53, 53] ++ 61 :: (v ++ [1]) := by unfold fieldL; rw [show ((55 : Int), v).1.toNat = 55 from rfl, dg55]
theorem gl54 (v : List UInt8) : fieldL (54, v) = [53, 52] ++ 61 :: (v ++ [1]) := by unfold fieldL; rw [show ((54 : Int), v).1.toNat = 54 from rfl, dg54]
theorem gl38 (v : List UInt8) : fieldL (38, v) = [51, 56] ++ 61 :: (v ++ [1]) := by unfold fieldL; rw [show ((38 : Int), v).1.toNat = 38 from rfl, dg38]
theorem gl44 (v : List UInt8) : fieldL (44, v) = [52, 52] ++ 61 :: (v ++ [1]) := by unfold fieldL; rw [show ((44 : Int), v).1.toNat = 44 from rfl, dg44]
set_option maxRecDepth 100000 in
set_option maxHeartbeats 8000000 in
theorem ordform_1 (q d z p : Int) (nm y : ByteArray) (hq : 1 ≤ q ∧ q ≤ 1099511627776) (hd : 1 ≤ d ∧ d ≤ 2) (hz : 1 ≤ z ∧ z ≤ 1099511627776) (hp : 1 ≤ p ∧ p ≤ 1099511627776) (hi : nm.size ≤ 200) (hy : y.size ≤ 200) (W : World) : Calls Tryd.prog 28 #[.agg #[.int .i64 1, .int .i64 q, .string nm, .string y, .int .i64 d, .int .i64 z, .int .i64 p]] W fun e w' => e = .returned (.string ⟨((((ordF ⟨1, q, nm, y, d, z, p⟩).map pairF).map fieldL).flatten).toArray⟩) ∧ Below W.heap.size W w' := by
  obtain ⟨p1, e1, z1, l1⟩ := putF_ok ⟨#[51, 53]⟩ ⟨#[68]⟩ (by decide) (by decide)
  obtain ⟨p2, e2, z2, l2⟩ := numF_ok ⟨#[51, 52]⟩ q (by decide) (by omega) (by omega)
  obtain ⟨p3, e3, z3, l3⟩ := putF_ok ⟨#[49, 49]⟩ nm (by decide) (by omega)
  obtain ⟨p4, e4, z4, l4⟩ := putF_ok ⟨#[53, 53]⟩ y (by decide) (by omega)
  obtain ⟨p5, e5, z5, l5⟩ := numF_ok ⟨#[53, 52]⟩ d (by decide) (by omega) (by omega)
  obtain ⟨p6, e6, z6, l6⟩ := numF_ok ⟨#[51, 56]⟩ z (by decide) (by omega) (by omega)
  obtain ⟨p7, e7, z7, l7⟩ := numF_ok ⟨#[52, 52]⟩ p (by decide) (by omega) (by omega)
  have es : ((((p1 ++ p2) ++ p3) ++ (p4 ++ p5)) ++ (p6 ++ p7)) = ⟨((((ordF ⟨1, q, nm, y, d, z, p⟩).map pairF).map fieldL).flatten).toArray⟩ := by
    apply ba_ext
    rw [show ordF ⟨1, q, nm, y, d, z, p⟩ = [⟨35, ⟨#[68]⟩⟩, ⟨34, digitsB q⟩, ⟨11, nm⟩, ⟨55, y⟩, ⟨54, digitsB d⟩, ⟨38, digitsB z⟩, ⟨44, digitsB p⟩] from rfl]
    simp only [List.map_cons, List.map_nil, pairF, List.flatten_cons, List.flatten_nil, gl35, gl34, gl11, gl55, gl54, gl38, gl44, ByteArray.toList_data_append, l1, l2, l3, l4, l5, l6, l7]
    simp
  have HP1 : Aside0 (∀ X, Calls Tryd.prog 75 #[.string ⟨#[51, 53]⟩, .string ⟨#[68]⟩] X fun e w' => e = .returned (.string p1) ∧ Drawn0 X w') := ⟨fun X => spigotref12_Put.calls _ _ _ X e1⟩
  have HP2 : Aside0 (∀ X, Calls Tryd.prog 76 #[.string ⟨#[51, 52]⟩, .int .i64 q] X fun e w' => e = .returned (.string p2) ∧ Below X.heap.size X w') := ⟨fun X => spigotref12_Number.calls _ _ _ X e2⟩
  have HP3 : Aside0 (∀ X, Calls Tryd.prog 75 #[.string ⟨#[49, 49]⟩, .string nm] X fun e w' => e = .returned (.string p3) ∧ Drawn0 X w') := ⟨fun X => spigotref12_Put.calls _ _ _ X e3⟩
  have HP4 : Aside0 (∀ X, Calls Tryd.prog 75 #[.string ⟨#[53, 53]⟩, .string y] X fun e w' => e = .returned (.string p4) ∧ Drawn0 X w') := ⟨fun X => spigotref12_Put.calls _ _ _ X e4⟩
  have HP5 : Aside0 (∀ X, Calls Tryd.prog 76 #[.string ⟨#[53, 52]⟩, .int .i64 d] X fun e w' => e = .returned (.string p5) ∧ Below X.heap.size X w') := ⟨fun X => spigotref12_Number.calls _ _ _ X e5⟩
  have HP6 : Aside0 (∀ X, Calls Tryd.prog 76 #[.string ⟨#[51, 56]⟩, .int .i64 z] X fun e w' => e = .returned (.string p6) ∧ Below X.heap.size X w') := ⟨fun X => spigotref12_Number.calls _ _ _ X e6⟩
  have HP7 : Aside0 (∀ X, Calls Tryd.prog 76 #[.string ⟨#[52, 52]⟩, .int .i64 p] X fun e w' => e = .returned (.string p7) ∧ Below X.heap.size X w') := ⟨fun X => spigotref12_Number.calls _ _ _ X e7⟩
  have ES := Aside0.mk es
  have s1 : (9223372036854775807 < p1.size + p2.size) = False := eq_false (Nat.not_lt.2 (by (try simp only [ByteArray.size_append]); omega))
  have s2 : (9223372036854775807 < p1.size + p2.size + p3.size) = False := eq_false (Nat.not_lt.2 (by (try simp only [ByteArray.size_append]); omega))
  have s3 : (9223372036854775807 < ((p1 ++ p2)).size + (p3).size) = False := eq_false (Nat.not_lt.2 (by (try simp only [ByteArray.size_append]); omega))
  have s4 : (9223372036854775807 < p4.size + p5.size) = False := eq_false (Nat.not_lt.2 (by (try simp only [ByteArray.size_append]); omega))
  have s5 : (9223372036854775807 < (((p1 ++ p2) ++ p3)).size + ((p4 ++ p5)).size) = False := eq_false (Nat.not_lt.2 (by (try simp only [ByteArray.size_append]); omega))
  have s6 : (9223372036854775807 < p1.size + p2.size + p3.size + (p4.size + p5.size)) = False := eq_false (Nat.not_lt.2 (by (try simp only [ByteArray.size_append]); omega))
  have s7 : (9223372036854775807 < p6.size + p7.size) = False := eq_false (Nat.not_lt.2 (by (try simp only [ByteArray.size_append]); omega))
  have s8 : (9223372036854775807 < p1.size + p2.size + p3.size + (p4.size + p5.size) + (p6.size + p7.size)) = False := eq_false (Nat.not_lt.2 (by (try simp only [ByteArray.size_append]); omega))
  have s9 : (9223372036854775807 < ((((p1 ++ p2) ++ p3) ++ (p4 ++ p5))).size + ((p6 ++ p7)).size) = False := eq_false (Nat.not_lt.2 (by (try simp only [ByteArray.size_append]); omega))
  clear es e1 z1 l1 e2 z2 l2 e3 z3 l3 e4 z4 l4 e5 z5 l5 e6 z6 l6 e7 z7 l7
  have HS1 : (W.alloc (.cells #[.int .i64 1, .int .i64 q, .string nm, .string y, .int .i64 d, .int .i64 z, .int .i64 p] 45)).heap.size = W.heap.size + 1 := World.size_alloc _ _
  have K0 := Aside0.mk (blk_alloc (blk_new W (.cells #[.int .i64 1, .int .i64 q, .string nm, .string y, .int .i64 d, .int .i64 z, .int .i64 p] 45)) (.cells #[.string ⟨#[]⟩, .string ⟨#[68]⟩, .string ⟨#[70]⟩, .string ⟨#[71]⟩] 116))
  have A0 : Aside0 (((W.alloc (.cells #[.int .i64 1, .int .i64 q, .string nm, .string y, .int .i64 d, .int .i64 z, .int .i64 p] 45)).alloc (.cells #[.string ⟨#[]⟩, .string ⟨#[68]⟩, .string ⟨#[70]⟩, .string ⟨#[71]⟩] 116)).heap[W.heap.size + 1]? = some (.cells #[.string ⟨#[]⟩, .string ⟨#[68]⟩, .string ⟨#[70]⟩, .string ⟨#[71]⟩] 116 (0, 0))) := ⟨by have h := blk_new (W.alloc (.cells #[.int .i64 1, .int .i64 q, .string nm, .string y, .int .i64 d, .int .i64 z, .int .i64 p] 45)) (.cells #[.string ⟨#[]⟩, .string ⟨#[68]⟩, .string ⟨#[70]⟩, .string ⟨#[71]⟩] 116); rwa [HS1] at h⟩
  have B0 : Aside0 (Below W.heap.size W ((W.alloc (.cells #[.int .i64 1, .int .i64 q, .string nm, .string y, .int .i64 d, .int .i64 z, .int .i64 p] 45)).alloc (.cells #[.string ⟨#[]⟩, .string ⟨#[68]⟩, .string ⟨#[70]⟩, .string ⟨#[71]⟩] 116))) := ⟨((Below.refl _ _).alloc (Nat.le_refl _) _).alloc (by rw [HS1]; omega) _⟩
  have HL0 : Aside0 (W.heap.size + 1 < ((W.alloc (.cells #[.int .i64 1, .int .i64 q, .string nm, .string y, .int .i64 d, .int .i64 z, .int .i64 p] 45)).alloc (.cells #[.string ⟨#[]⟩, .string ⟨#[68]⟩, .string ⟨#[70]⟩, .string ⟨#[71]⟩] 116)).heap.size) := ⟨by rw [World.size_alloc, HS1]; omega⟩
  clear HS1
  go_enter Tryd.func28, Tryd.ntmps28
  go_wp2
  refine start_ (n := 14) (S := fun w' => (∀ i, w'.cell? ⟨W.heap.size, i, none⟩ = (#[.int .i64 1, .int .i64 q, .string nm, .string y, .int .i64 d, .int .i64 z, .int .i64 p] : Array Value)[i]?) ∧ (∀ i, w'.cell? ⟨W.heap.size + 1, i, none⟩ = (#[.string ⟨#[]⟩, .string ⟨#[68]⟩, .string ⟨#[70]⟩, .string ⟨#[71]⟩] : Array Value)[i]?)) (ds := []) #[false, false, false, false, false, false, false, false, false, false, false, false, false, false] (by kernel_rfl) rfl rfl ⟨(fun i => blk_cell (w := ((W.alloc (.cells #[.int .i64 1, .int .i64 q, .string nm, .string y, .int .i64 d, .int .i64 z, .int .i64 p] 45)).alloc (.cells #[.string ⟨#[]⟩, .string ⟨#[68]⟩, .string ⟨#[70]⟩, .string ⟨#[71]⟩] 116)).drew) K0.out i), (fun i => blk_cell (w := ((W.alloc (.cells #[.int .i64 1, .int .i64 q, .string nm, .string y, .int .i64 d, .int .i64 z, .int .i64 p] 45)).alloc (.cells #[.string ⟨#[]⟩, .string ⟨#[68]⟩, .string ⟨#[70]⟩, .string ⟨#[71]⟩] 116)).drew) A0.out i)⟩ (fun hHeld => ?_)
  refine pure_ (i := 0) (N := some 6) (v := ?_) (a' := ?_) #[true, false, false, false, false, false, false, false, false, false, false, false, false, false] rfl rfl (by kernel_rfl) (fun _ _ _ h => h) (Or.inl ⟨by rfl, ?_⟩) ?_ ?_
  rotate_left
  · intro w'
    go_simp
    with_reducible rfl
  rotate_left
  · simp only [Act.put, List.setIfInBounds_toArray, List.set_cons_zero, List.set_cons_succ, i64_w, i32_w]
    rfl
  refine pure_ (i := 5) (N := some 11) (v := ?_) (a' := ?_) #[true, false, false, false, false, true, false, false, false, false, false, false, false, false] rfl rfl (by kernel_rfl) (fun _ _ _ h => h) (Or.inl ⟨by rfl, ?_⟩) ?_ ?_
  rotate_left
  · intro w'
    go_simp
    with_reducible rfl
  rotate_left
  · simp only [Act.put, List.setIfInBounds_toArray, List.set_cons_zero, List.set_cons_succ, i64_w, i32_w]
    rfl
  refine pure_ (i := 9) (N := some 15) (v := ?_) (a' := ?_) #[true, false, false, false, false, true, false, false, false, true, false, false, false, false] rfl rfl (by kernel_rfl) (fun _ _ _ h => h) (Or.inl ⟨by rfl, ?_⟩) ?_ ?_
  rotate_left
  · intro w'
    go_simp
    with_reducible rfl
  rotate_left
  · simp only [Act.put, List.setIfInBounds_toArray, List.set_cons_zero, List.set_cons_succ, i64_w, i32_w]
    rfl
  refine take_ (i := 1) (N := some 7) (v := ?_) (a' := ?_) #[true, true, false, false, false, true, false, false, false, true, false, false, false, false] rfl rfl (by kernel_rfl) (fun _ _ _ h => h) (Or.inl ⟨by rfl, ?_⟩) hHeld ?_ ?_
  rotate_left
  · rintro w' ⟨s0, s1⟩
    go_simp
    with_reducible rfl
  rotate_left
  · simp only [Act.put, List.setIfInBounds_toArray, List.set_cons_zero, List.set_cons_succ, i64_w, i32_w]
    rfl
  refine pure_ (i := 2) (N := some 8) (v := ?_) (a' := ?_) #[true, true, true, false, false, true, false, false, false, true, false, false, false, false] rfl rfl (by kernel_rfl) (fun _ _ _ h => h) (Or.inl ⟨by rfl, ?_⟩) ?_ ?_
  rotate_left
  · intro w'
    go_simp
    with_reducible rfl
  rotate_left
  · simp only [Act.put, List.setIfInBounds_toArray, List.set_cons_zero, List.set_cons_succ, i64_w, i32_w]
    rfl
  refine take_ (i := 3) (N := some 9) (v := ?_) (a' := ?_) #[true, true, true, true, false, true, false, false, false, true, false, false, false, false] rfl rfl (by kernel_rfl) (fun _ _ _ h => h) (Or.inl ⟨by rfl, ?_⟩) hHeld ?_ ?_
  rotate_left
  · rintro w' ⟨s0, s1⟩
    go_simp
    with_reducible rfl
  rotate_left
  · simp only [Act.put, List.setIfInBounds_toArray, List.set_cons_zero, List.set_cons_succ, i64_w, i32_w]
    rfl
  refine take_ (i := 6) (N := some 12) (v := ?_) (a' := ?_) #[true, true, true, true, false, true, true, false, false, true, false, false, false, false] rfl rfl (by kernel_rfl) (fun _ _ _ h => h) (Or.inl ⟨by rfl, ?_⟩) hHeld ?_ ?_
  rotate_left
  · rintro w' ⟨s0, s1⟩
    go_simp
    with_reducible rfl
  rotate_left
  · simp only [Act.put, List.setIfInBounds_toArray, List.set_cons_zero, List.set_cons_succ, i64_w, i32_w]
    rfl
  refine take_ (i := 10) (N := some 16) (v := ?_) (a' := ?_) #[true, true, true, true, false, true, true, false, false, true, true, false, false, false] rfl rfl (by kernel_rfl) (fun _ _ _ h => h) (Or.inl ⟨by rfl, ?_⟩) hHeld ?_ ?_
  rotate_left
  · rintro w' ⟨s0, s1⟩
    go_simp
    with_reducible rfl
  rotate_left
  · simp only [Act.put, List.setIfInBounds_toArray, List.set_cons_zero, List.set_cons_succ, i64_w, i32_w]
    rfl
  refine one_ (i := 4) (N := some 10) #[true, true, true, true, true, true, true, false, false, true, true, false, false, false] rfl rfl (by kernel_rfl) (by decide) (fun K hK => ?_)
  refine goes_ Tryd.func75 (by kernel_rfl) rfl #[.string ⟨#[51, 53]⟩, .string ⟨#[68]⟩] (by rfl) rfl rfl (by simp only [List.map_toArray, List.map_cons, List.map_nil]; rfl) ?_
  with_reducible refine (HP1.out _).mono ?_
  rintro e w1 ⟨rfl, hd1⟩
  refine ⟨_, rfl, ?_⟩
  have hb1 := hd1.below
  have B1 := Aside0.mk (show Below W.heap.size W w1 from (by first | exact B0.out.trans (hb1.mono B0.out.size) | exact (Below.drew B0.out).trans (hb1.mono B0.out.size)))
  have HL1 : Aside0 (W.heap.size + 1 < w1.heap.size) := ⟨Nat.lt_of_lt_of_le HL0.out hb1.size⟩
  refine hK.out _ _ ⟨(fun i => (hb1.cell (p := ⟨W.heap.size, i, none⟩) (Nat.lt_of_le_of_lt (by first | exact Nat.le_refl _ | exact Nat.le_succ _) HL0.out)).trans (hHeld.1 i)), (fun i => (hb1.cell (p := ⟨W.heap.size + 1, i, none⟩) (Nat.lt_of_le_of_lt (by first | exact Nat.le_refl _ | exact Nat.le_succ _) HL0.out)).trans (hHeld.2 i))⟩ (fun hHeld => ?_)
  clear hK K
  refine norm_ (a' := ?_) ?_ ?_
  rotate_left
  · show Act.put _ (some 10) _ = _
    simp only [Act.put, List.setIfInBounds_toArray, List.set_cons_zero, List.set_cons_succ, i64_w, i32_w]
    rfl
  refine one_ (i := 7) (N := some 13) #[true, true, true, true, true, true, true, true, false, true, true, false, false, false] rfl rfl (by kernel_rfl) (by decide) (fun K hK => ?_)
  refine goes_ Tryd.func76 (by kernel_rfl) rfl #[.string ⟨#[51, 52]⟩, .int .i64 q] (by rfl) rfl rfl (by simp only [List.map_toArray, List.map_cons, List.map_nil]; rfl) ?_
  with_reducible refine (HP2.out _).mono ?_
  rintro e w2 ⟨rfl, hb2⟩
  refine ⟨_, rfl, ?_⟩
  have B2 := Aside0.mk (show Below W.heap.size W w2 from (by first | exact B1.out.trans (hb2.mono B1.out.size) | exact (Below.drew B1.out).trans (hb2.mono B1.out.size)))
  have HL2 : Aside0 (W.heap.size + 1 < w2.heap.size) := ⟨Nat.lt_of_lt_of_le HL1.out hb2.size⟩
  refine hK.out _ _ ⟨(fun i => (hb2.cell (p := ⟨W.heap.size, i, none⟩) (Nat.lt_of_le_of_lt (by first | exact Nat.le_refl _ | exact Nat.le_succ _) HL1.out)).trans (hHeld.1 i)), (fun i => (hb2.cell (p := ⟨W.heap.size + 1, i, none⟩) (Nat.lt_of_le_of_lt (by first | exact Nat.le_refl _ | exact Nat.le_succ _) HL1.out)).trans (hHeld.2 i))⟩ (fun hHeld => ?_)
  clear hK K
  refine norm_ (a' := ?_) ?_ ?_
  rotate_left
  · show Act.put _ (some 13) _ = _
    simp only [Act.put, List.setIfInBounds_toArray, List.set_cons_zero, List.set_cons_succ, i64_w, i32_w]
    rfl
  refine pure_ (i := 8) (N := some 14) (v := ?_) (a' := ?_) #[true, true, true, true, true, true, true, true, true, true, true, false, false, false] rfl rfl (by kernel_rfl) (fun _ _ _ h => h) (Or.inl ⟨by rfl, ?_⟩) ?_ ?_
  rotate_left
  · intro w'
    go_simp
    with_reducible rfl
  rotate_left
  · simp only [Act.put, List.setIfInBounds_toArray, List.set_cons_zero, List.set_cons_succ, i64_w, i32_w]
    rfl
  refine one_ (i := 11) (N := some 17) #[true, true, true, true, true, true, true, true, true, true, true, true, false, false] rfl rfl (by kernel_rfl) (by decide) (fun K hK => ?_)
  refine goes_ Tryd.func75 (by kernel_rfl) rfl #[.string ⟨#[49, 49]⟩, .string nm] (by rfl) rfl rfl (by simp only [List.map_toArray, List.map_cons, List.map_nil]; rfl) ?_
  with_reducible refine (HP3.out _).mono ?_
  rintro e w3 ⟨rfl, hd3⟩
  refine ⟨_, rfl, ?_⟩
  have hb3 := hd3.below
  have B3 := Aside0.mk (show Below W.heap.size W w3 from (by first | exact B2.out.trans (hb3.mono B2.out.size) | exact (Below.drew B2.out).trans (hb3.mono B2.out.size)))
  have HL3 : Aside0 (W.heap.size + 1 < w3.heap.size) := ⟨Nat.lt_of_lt_of_le HL2.out hb3.size⟩
  refine hK.out _ _ ⟨(fun i => (hb3.cell (p := ⟨W.heap.size, i, none⟩) (Nat.lt_of_le_of_lt (by first | exact Nat.le_refl _ | exact Nat.le_succ _) HL2.out)).trans (hHeld.1 i)), (fun i => (hb3.cell (p := ⟨W.heap.size + 1, i, none⟩) (Nat.lt_of_le_of_lt (by first | exact Nat.le_refl _ | exact Nat.le_succ _) HL2.out)).trans (hHeld.2 i))⟩ (fun hHeld => ?_)
  clear hK K
  refine norm_ (a' := ?_) ?_ ?_
  rotate_left
  · show Act.put _ (some 17) _ = _
    simp only [Act.put, List.setIfInBounds_toArray, List.set_cons_zero, List.set_cons_succ, i64_w, i32_w]
    rfl
  refine pure_ (i := 12) (N := some 18) (v := ?_) (a' := ?_) #[true, true, true, true, true, true, true, true, true, true, true, true, true, false] rfl rfl (by kernel_rfl) (fun _ _ _ h => h) (Or.inl ⟨by rfl, ?_⟩) ?_ ?_
  rotate_left
  · intro w'
    go_simp
    with_reducible rfl
  rotate_left
  · simp only [Act.put, List.setIfInBounds_toArray, List.set_cons_zero, List.set_cons_succ, i64_w, i32_w]
    rfl
  refine pure_ (i := 13) (N := some 4) (v := ?_) (a' := ?_) #[true, true, true, true, true, true, true, true, true, true, true, true, true, true] rfl rfl (by kernel_rfl) (fun _ _ _ h => h) (Or.inl ⟨by rfl, ?_⟩) ?_ ?_
  rotate_left
  · intro w'
    go_simp
    with_reducible rfl
  rotate_left
  · simp only [Act.put, List.setIfInBounds_toArray, List.set_cons_zero, List.set_cons_succ, i64_w, i32_w]
    rfl
  refine done_ (by kernel_rfl) ?_
  have K3 : Aside0 (w3.heap[W.heap.size]? = some (.cells #[.int .i64 1, .int .i64 q, .string nm, .string y, .int .i64 d, .int .i64 z, .int .i64 p] 45 (0, 0))) := ⟨(blk_below (w := w2) (blk_below (w := w1) (blk_below (w := ((W.alloc (.cells #[.int .i64 1, .int .i64 q, .string nm, .string y, .int .i64 d, .int .i64 z, .int .i64 p] 45)).alloc (.cells #[.string ⟨#[]⟩, .string ⟨#[68]⟩, .string ⟨#[70]⟩, .string ⟨#[71]⟩] 116)).drew) K0.out ⟨hb1.os, hb1.tape, hb1.output, hb1.size, hb1.block⟩) ⟨hb2.os, hb2.tape, hb2.output, hb2.size, hb2.block⟩) ⟨hb3.os, hb3.tape, hb3.output, hb3.size, hb3.block⟩)⟩
  have A3 : Aside0 (w3.heap[W.heap.size + 1]? = some (.cells #[.string ⟨#[]⟩, .string ⟨#[68]⟩, .string ⟨#[70]⟩, .string ⟨#[71]⟩] 116 (0, 0))) := ⟨(blk_below (w := w2) (blk_below (w := w1) (blk_below (w := ((W.alloc (.cells #[.int .i64 1, .int .i64 q, .string nm, .string y, .int .i64 d, .int .i64 z, .int .i64 p] 45)).alloc (.cells #[.string ⟨#[]⟩, .string ⟨#[68]⟩, .string ⟨#[70]⟩, .string ⟨#[71]⟩] 116)).drew) A0.out ⟨hb1.os, hb1.tape, hb1.output, hb1.size, hb1.block⟩) ⟨hb2.os, hb2.tape, hb2.output, hb2.size, hb2.block⟩) ⟨hb3.os, hb3.tape, hb3.output, hb3.size, hb3.block⟩)⟩
  (try clear hc)
  have hc := fun i => blk_cell K3.out i
  (try clear hca)
  have hca := fun i => blk_cell A3.out i
  clear hb1 hb2 hb3
  go_wp2
  refine start_ (n := 10) (S := fun w' => (∀ i, w'.cell? ⟨W.heap.size, i, none⟩ = (#[.int .i64 1, .int .i64 q, .string nm, .string y, .int .i64 d, .int .i64 z, .int .i64 p] : Array Value)[i]?) ∧ (∀ i, w'.cell? ⟨W.heap.size + 1, i, none⟩ = (#[.string ⟨#[]⟩, .string ⟨#[68]⟩, .string ⟨#[70]⟩, .string ⟨#[71]⟩] : Array Value)[i]?)) (ds := []) #[false, false, false, false, false, false, false, false, false, false] (by kernel_rfl) rfl rfl ⟨(fun i => blk_cell (w := w3.drew) K3.out i), (fun i => blk_cell (w := w3.drew) A3.out i)⟩ (fun hHeld => ?_)
  refine pure_ (i := 0) (N := some 22) (v := ?_) (a' := ?_) #[true, false, false, false, false, false, false, false, false, false] rfl rfl (by kernel_rfl) (fun _ _ _ h => h) (Or.inl ⟨by rfl, ?_⟩) ?_ ?_
  rotate_left
  · intro w'
    go_simp
    with_reducible rfl
  rotate_left
  · simp only [Act.put, List.setIfInBounds_toArray, List.set_cons_zero, List.set_cons_succ, i64_w, i32_w]
    rfl
  refine pure_ (i := 1) (N := some 23) (v := ?_) (a' := ?_) #[true, true, false, false, false, false, false, false, false, false] rfl rfl (by kernel_rfl) (fun _ _ _ h => h) (Or.inl ⟨by rfl, ?_⟩) ?_ ?_
  rotate_left
  · intro w'
    go_simp
    with_reducible rfl
  rotate_left
  · simp only [Act.put, List.setIfInBounds_toArray, List.set_cons_zero, List.set_cons_succ, i64_w, i32_w]
    rfl
  refine pure_ (i := 4) (N := some 26) (v := ?_) (a' := ?_) #[true, true, false, false, true, false, false, false, false, false] rfl rfl (by kernel_rfl) (fun _ _ _ h => h) (Or.inl ⟨by rfl, ?_⟩) ?_ ?_
  rotate_left
  · intro w'
    go_simp
    with_reducible rfl
  rotate_left
  · simp only [Act.put, List.setIfInBounds_toArray, List.set_cons_zero, List.set_cons_succ, i64_w, i32_w]
    rfl
  refine take_ (i := 2) (N := some 24) (v := ?_) (a' := ?_) #[true, true, true, false, true, false, false, false, false, false] rfl rfl (by kernel_rfl) (fun _ _ _ h => h) (Or.inl ⟨by rfl, ?_⟩) hHeld ?_ ?_
  rotate_left
  · rintro w' ⟨s0, s1⟩
    go_simp
    with_reducible rfl
  rotate_left
  · simp only [Act.put, List.setIfInBounds_toArray, List.set_cons_zero, List.set_cons_succ, i64_w, i32_w]
    rfl
  refine take_ (i := 5) (N := some 27) (v := ?_) (a' := ?_) #[true, true, true, false, true, true, false, false, false, false] rfl rfl (by kernel_rfl) (fun _ _ _ h => h) (Or.inl ⟨by rfl, ?_⟩) hHeld ?_ ?_
  rotate_left
  · rintro w' ⟨s0, s1⟩
    go_simp
    with_reducible rfl
  rotate_left
  · simp only [Act.put, List.setIfInBounds_toArray, List.set_cons_zero, List.set_cons_succ, i64_w, i32_w]
    rfl
  refine one_ (i := 3) (N := some 25) #[true, true, true, true, true, true, false, false, false, false] rfl rfl (by kernel_rfl) (by decide) (fun K hK => ?_)
  refine goes_ Tryd.func75 (by kernel_rfl) rfl #[.string ⟨#[53, 53]⟩, .string y] (by rfl) rfl rfl (by simp only [List.map_toArray, List.map_cons, List.map_nil]; rfl) ?_
  with_reducible refine (HP4.out _).mono ?_
  rintro e w4 ⟨rfl, hd4⟩
  refine ⟨_, rfl, ?_⟩
  have hb4 := hd4.below
  have B4 := Aside0.mk (show Below W.heap.size W w4 from (by first | exact B3.out.trans (hb4.mono B3.out.size) | exact (Below.drew B3.out).trans (hb4.mono B3.out.size)))
  have HL4 : Aside0 (W.heap.size + 1 < w4.heap.size) := ⟨Nat.lt_of_lt_of_le HL3.out hb4.size⟩
  refine hK.out _ _ ⟨(fun i => (hb4.cell (p := ⟨W.heap.size, i, none⟩) (Nat.lt_of_le_of_lt (by first | exact Nat.le_refl _ | exact Nat.le_succ _) HL3.out)).trans (hHeld.1 i)), (fun i => (hb4.cell (p := ⟨W.heap.size + 1, i, none⟩) (Nat.lt_of_le_of_lt (by first | exact Nat.le_refl _ | exact Nat.le_succ _) HL3.out)).trans (hHeld.2 i))⟩ (fun hHeld => ?_)
  clear hK K
  refine norm_ (a' := ?_) ?_ ?_
  rotate_left
  · show Act.put _ (some 25) _ = _
    simp only [Act.put, List.setIfInBounds_toArray, List.set_cons_zero, List.set_cons_succ, i64_w, i32_w]
    rfl
  refine one_ (i := 6) (N := some 28) #[true, true, true, true, true, true, true, false, false, false] rfl rfl (by kernel_rfl) (by decide) (fun K hK => ?_)
  refine goes_ Tryd.func76 (by kernel_rfl) rfl #[.string ⟨#[53, 52]⟩, .int .i64 d] (by rfl) rfl rfl (by simp only [List.map_toArray, List.map_cons, List.map_nil]; rfl) ?_
  with_reducible refine (HP5.out _).mono ?_
  rintro e w5 ⟨rfl, hb5⟩
  refine ⟨_, rfl, ?_⟩
  have B5 := Aside0.mk (show Below W.heap.size W w5 from (by first | exact B4.out.trans (hb5.mono B4.out.size) | exact (Below.drew B4.out).trans (hb5.mono B4.out.size)))
  have HL5 : Aside0 (W.heap.size + 1 < w5.heap.size) := ⟨Nat.lt_of_lt_of_le HL4.out hb5.size⟩
  refine hK.out _ _ ⟨(fun i => (hb5.cell (p := ⟨W.heap.size, i, none⟩) (Nat.lt_of_le_of_lt (by first | exact Nat.le_refl _ | exact Nat.le_succ _) HL4.out)).trans (hHeld.1 i)), (fun i => (hb5.cell (p := ⟨W.heap.size + 1, i, none⟩) (Nat.lt_of_le_of_lt (by first | exact Nat.le_refl _ | exact Nat.le_succ _) HL4.out)).trans (hHeld.2 i))⟩ (fun hHeld => ?_)
  clear hK K
  refine norm_ (a' := ?_) ?_ ?_
  rotate_left
  · show Act.put _ (some 28) _ = _
    simp only [Act.put, List.setIfInBounds_toArray, List.set_cons_zero, List.set_cons_succ, i64_w, i32_w]
    rfl
  refine pure_ (i := 7) (N := some 29) (v := ?_) (a' := ?_) #[true, true, true, true, true, true, true, true, false, false] rfl rfl (by kernel_rfl) (fun _ _ _ h => h) (Or.inl ⟨by rfl, ?_⟩) ?_ ?_
  rotate_left
  · intro w'
    go_simp
    with_reducible rfl
  rotate_left
  · simp only [Act.put, List.setIfInBounds_toArray, List.set_cons_zero, List.set_cons_succ, i64_w, i32_w]
    rfl
  refine pure_ (i := 8) (N := some 30) (v := ?_) (a' := ?_) #[true, true, true, true, true, true, true, true, true, false] rfl rfl (by kernel_rfl) (fun _ _ _ h => h) (Or.inl ⟨by rfl, ?_⟩) ?_ ?_
  rotate_left
  · intro w'
    go_simp
    with_reducible rfl
  rotate_left
  · simp only [Act.put, List.setIfInBounds_toArray, List.set_cons_zero, List.set_cons_succ, i64_w, i32_w]
    rfl
  refine pure_ (i := 9) (N := some 4) (v := ?_) (a' := ?_) #[true, true, true, true, true, true, true, true, true, true] rfl rfl (by kernel_rfl) (fun _ _ _ h => h) (Or.inl ⟨by rfl, ?_⟩) ?_ ?_
  rotate_left
  · intro w'
    go_simp
    with_reducible rfl
  rotate_left
  · simp only [Act.put, List.setIfInBounds_toArray, List.set_cons_zero, List.set_cons_succ, i64_w, i32_w]
    rfl
  refine done_ (by kernel_rfl) ?_
  have K5 : Aside0 (w5.heap[W.heap.size]? = some (.cells #[.int .i64 1, .int .i64 q, .string nm, .string y, .int .i64 d, .int .i64 z, .int .i64 p] 45 (0, 0))) := ⟨(blk_below (w := w4) (blk_below (w := w3.drew) K3.out ⟨hb4.os, hb4.tape, hb4.output, hb4.size, hb4.block⟩) ⟨hb5.os, hb5.tape, hb5.output, hb5.size, hb5.block⟩)⟩
  have A5 : Aside0 (w5.heap[W.heap.size + 1]? = some (.cells #[.string ⟨#[]⟩, .string ⟨#[68]⟩, .string ⟨#[70]⟩, .string ⟨#[71]⟩] 116 (0, 0))) := ⟨(blk_below (w := w4) (blk_below (w := w3.drew) A3.out ⟨hb4.os, hb4.tape, hb4.output, hb4.size, hb4.block⟩) ⟨hb5.os, hb5.tape, hb5.output, hb5.size, hb5.block⟩)⟩
  (try clear hc)
  have hc := fun i => blk_cell K5.out i
  (try clear hca)
  have hca := fun i => blk_cell A5.out i
  clear hb4 hb5
  go_wp2
  refine start_ (n := 10) (S := fun w' => (∀ i, w'.cell? ⟨W.heap.size, i, none⟩ = (#[.int .i64 1, .int .i64 q, .string nm, .string y, .int .i64 d, .int .i64 z, .int .i64 p] : Array Value)[i]?) ∧ (∀ i, w'.cell? ⟨W.heap.size + 1, i, none⟩ = (#[.string ⟨#[]⟩, .string ⟨#[68]⟩, .string ⟨#[70]⟩, .string ⟨#[71]⟩] : Array Value)[i]?)) (ds := []) #[false, false, false, false, false, false, false, false, false, false] (by kernel_rfl) rfl rfl ⟨(fun i => blk_cell (w := w5.drew) K5.out i), (fun i => blk_cell (w := w5.drew) A5.out i)⟩ (fun hHeld => ?_)
  refine pure_ (i := 0) (N := some 34) (v := ?_) (a' := ?_) #[true, false, false, false, false, false, false, false, false, false] rfl rfl (by kernel_rfl) (fun _ _ _ h => h) (Or.inl ⟨by rfl, ?_⟩) ?_ ?_
  rotate_left
  · intro w'
    go_simp
    with_reducible rfl
  rotate_left
  · simp only [Act.put, List.setIfInBounds_toArray, List.set_cons_zero, List.set_cons_succ, i64_w, i32_w]
    rfl
  refine pure_ (i := 1) (N := some 35) (v := ?_) (a' := ?_) #[true, true, false, false, false, false, false, false, false, false] rfl rfl (by kernel_rfl) (fun _ _ _ h => h) (Or.inl ⟨by rfl, ?_⟩) ?_ ?_
  rotate_left
  · intro w'
    go_simp
    with_reducible rfl
  rotate_left
  · simp only [Act.put, List.setIfInBounds_toArray, List.set_cons_zero, List.set_cons_succ, i64_w, i32_w]
    rfl
  refine pure_ (i := 4) (N := some 38) (v := ?_) (a' := ?_) #[true, true, false, false, true, false, false, false, false, false] rfl rfl (by kernel_rfl) (fun _ _ _ h => h) (Or.inl ⟨by rfl, ?_⟩) ?_ ?_
  rotate_left
  · intro w'
    go_simp
    with_reducible rfl
  rotate_left
  · simp only [Act.put, List.setIfInBounds_toArray, List.set_cons_zero, List.set_cons_succ, i64_w, i32_w]
    rfl
  refine take_ (i := 2) (N := some 36) (v := ?_) (a' := ?_) #[true, true, true, false, true, false, false, false, false, false] rfl rfl (by kernel_rfl) (fun _ _ _ h => h) (Or.inl ⟨by rfl, ?_⟩) hHeld ?_ ?_
  rotate_left
  · rintro w' ⟨s0, s1⟩
    go_simp
    with_reducible rfl
  rotate_left
  · simp only [Act.put, List.setIfInBounds_toArray, List.set_cons_zero, List.set_cons_succ, i64_w, i32_w]
    rfl
  refine take_ (i := 5) (N := some 39) (v := ?_) (a' := ?_) #[true, true, true, false, true, true, false, false, false, false] rfl rfl (by kernel_rfl) (fun _ _ _ h => h) (Or.inl ⟨by rfl, ?_⟩) hHeld ?_ ?_
  rotate_left
  · rintro w' ⟨s0, s1⟩
    go_simp
    with_reducible rfl
  rotate_left
  · simp only [Act.put, List.setIfInBounds_toArray, List.set_cons_zero, List.set_cons_succ, i64_w, i32_w]
    rfl
  refine one_ (i := 3) (N := some 37) #[true, true, true, true, true, true, false, false, false, false] rfl rfl (by kernel_rfl) (by decide) (fun K hK => ?_)
  refine goes_ Tryd.func76 (by kernel_rfl) rfl #[.string ⟨#[51, 56]⟩, .int .i64 z] (by rfl) rfl rfl (by simp only [List.map_toArray, List.map_cons, List.map_nil]; rfl) ?_
  with_reducible refine (HP6.out _).mono ?_
  rintro e w6 ⟨rfl, hb6⟩
  refine ⟨_, rfl, ?_⟩
  have B6 := Aside0.mk (show Below W.heap.size W w6 from (by first | exact B5.out.trans (hb6.mono B5.out.size) | exact (Below.drew B5.out).trans (hb6.mono B5.out.size)))
  have HL6 : Aside0 (W.heap.size + 1 < w6.heap.size) := ⟨Nat.lt_of_lt_of_le HL5.out hb6.size⟩
  refine hK.out _ _ ⟨(fun i => (hb6.cell (p := ⟨W.heap.size, i, none⟩) (Nat.lt_of_le_of_lt (by first | exact Nat.le_refl _ | exact Nat.le_succ _) HL5.out)).trans (hHeld.1 i)), (fun i => (hb6.cell (p := ⟨W.heap.size + 1, i, none⟩) (Nat.lt_of_le_of_lt (by first | exact Nat.le_refl _ | exact Nat.le_succ _) HL5.out)).trans (hHeld.2 i))⟩ (fun hHeld => ?_)
  clear hK K
  refine norm_ (a' := ?_) ?_ ?_
  rotate_left
  · show Act.put _ (some 37) _ = _
    simp only [Act.put, List.setIfInBounds_toArray, List.set_cons_zero, List.set_cons_succ, i64_w, i32_w]
    rfl
  refine one_ (i := 6) (N := some 40) #[true, true, true, true, true, true, true, false, false, false] rfl rfl (by kernel_rfl) (by decide) (fun K hK => ?_)
  refine goes_ Tryd.func76 (by kernel_rfl) rfl #[.string ⟨#[52, 52]⟩, .int .i64 p] (by rfl) rfl rfl (by simp only [List.map_toArray, List.map_cons, List.map_nil]; rfl) ?_
  with_reducible refine (HP7.out _).mono ?_
  rintro e w7 ⟨rfl, hb7⟩
  refine ⟨_, rfl, ?_⟩
  have B7 := Aside0.mk (show Below W.heap.size W w7 from (by first | exact B6.out.trans (hb7.mono B6.out.size) | exact (Below.drew B6.out).trans (hb7.mono B6.out.size)))
  have HL7 : Aside0 (W.heap.size + 1 < w7.heap.size) := ⟨Nat.lt_of_lt_of_le HL6.out hb7.size⟩
  refine hK.out _ _ ⟨(fun i => (hb7.cell (p := ⟨W.heap.size, i, none⟩) (Nat.lt_of_le_of_lt (by first | exact Nat.le_refl _ | exact Nat.le_succ _) HL6.out)).trans (hHeld.1 i)), (fun i => (hb7.cell (p := ⟨W.heap.size + 1, i, none⟩) (Nat.lt_of_le_of_lt (by first | exact Nat.le_refl _ | exact Nat.le_succ _) HL6.out)).trans (hHeld.2 i))⟩ (fun hHeld => ?_)
  clear hK K
  refine norm_ (a' := ?_) ?_ ?_
  rotate_left
  · show Act.put _ (some 40) _ = _
    simp only [Act.put, List.setIfInBounds_toArray, List.set_cons_zero, List.set_cons_succ, i64_w, i32_w]
    rfl
  refine pure_ (i := 7) (N := some 41) (v := ?_) (a' := ?_) #[true, true, true, true, true, true, true, true, false, false] rfl rfl (by kernel_rfl) (fun _ _ _ h => h) (Or.inl ⟨by rfl, ?_⟩) ?_ ?_
  rotate_left
  · intro w'
    go_simp
    with_reducible rfl
  rotate_left
  · simp only [Act.put, List.setIfInBounds_toArray, List.set_cons_zero, List.set_cons_succ, i64_w, i32_w]
    rfl
  refine pure_ (i := 8) (N := some 42) (v := ?_) (a' := ?_) #[true, true, true, true, true, true, true, true, true, false] rfl rfl (by kernel_rfl) (fun _ _ _ h => h) (Or.inl ⟨by rfl, ?_⟩) ?_ ?_
  rotate_left
  · intro w'
    go_simp
    with_reducible rfl
  rotate_left
  · simp only [Act.put, List.setIfInBounds_toArray, List.set_cons_zero, List.set_cons_succ, i64_w, i32_w]
    rfl
  refine pure_ (i := 9) (N := some 4) (v := ?_) (a' := ?_) #[true, true, true, true, true, true, true, true, true, true] rfl rfl (by kernel_rfl) (fun _ _ _ h => h) (Or.inl ⟨by rfl, ?_⟩) ?_ ?_
  rotate_left
  · intro w'
    go_simp
    with_reducible rfl
  rotate_left
  · simp only [Act.put, List.setIfInBounds_toArray, List.set_cons_zero, List.set_cons_succ, i64_w, i32_w]
    rfl
  refine done_ (by kernel_rfl) ?_
  have K7 : Aside0 (w7.heap[W.heap.size]? = some (.cells #[.int .i64 1, .int .i64 q, .string nm, .string y, .int .i64 d, .int .i64 z, .int .i64 p] 45 (0, 0))) := ⟨(blk_below (w := w6) (blk_below (w := w5.drew) K5.out ⟨hb6.os, hb6.tape, hb6.output, hb6.size, hb6.block⟩) ⟨hb7.os, hb7.tape, hb7.output, hb7.size, hb7.block⟩)⟩
  have A7 : Aside0 (w7.heap[W.heap.size + 1]? = some (.cells #[.string ⟨#[]⟩, .string ⟨#[68]⟩, .string ⟨#[70]⟩, .string ⟨#[71]⟩] 116 (0, 0))) := ⟨(blk_below (w := w6) (blk_below (w := w5.drew) A5.out ⟨hb6.os, hb6.tape, hb6.output, hb6.size, hb6.block⟩) ⟨hb7.os, hb7.tape, hb7.output, hb7.size, hb7.block⟩)⟩
  (try clear hc)
  have hc := fun i => blk_cell K7.out i
  (try clear hca)
  have hca := fun i => blk_cell A7.out i
  clear hb6 hb7
  go_wp2
  go_ret
  exact ⟨by rw [← ES.out]; rfl, B7.out⟩
set_option maxRecDepth 100000 in
set_option maxHeartbeats 8000000 in
theorem ordform_2 (q : Int) (nm : ByteArray) (hq : 1 ≤ q ∧ q ≤ 1099511627776) (hi : nm.size ≤ 200) (W : World) : Calls Tryd.prog 28 #[.agg #[.int .i64 2, .int .i64 q, .string nm, .string ⟨#[]⟩, .int .i64 0, .int .i64 0, .int .i64 0]] W fun e w' => e = .returned (.string ⟨((((ordF ⟨2, q, nm, ⟨#[]⟩, 0, 0, 0⟩).map pairF).map fieldL).flatten).toArray⟩) ∧ Below W.heap.size W w' := by
  obtain ⟨p1, e1, z1, l1⟩ := putF_ok ⟨#[51, 53]⟩ ⟨#[70]⟩ (by decide) (by decide)
  obtain ⟨p2, e2, z2, l2⟩ := numF_ok ⟨#[51, 52]⟩ q (by decide) (by omega) (by omega)
  obtain ⟨p3, e3, z3, l3⟩ := putF_ok ⟨#[49, 49]⟩ nm (by decide) (by omega)
  have es : ((p1 ++ p2) ++ p3) = ⟨((((ordF ⟨2, q, nm, ⟨#[]⟩, 0, 0, 0⟩).map pairF).map fieldL).flatten).toArray⟩ := by
    apply ba_ext
    rw [show ordF ⟨2, q, nm, ⟨#[]⟩, 0, 0, 0⟩ = [⟨35, ⟨#[70]⟩⟩, ⟨34, digitsB q⟩, ⟨11, nm⟩] from rfl]
    simp only [List.map_cons, List.map_nil, pairF, List.flatten_cons, List.flatten_nil, gl35, gl34, gl11, ByteArray.toList_data_append, l1, l2, l3]
    simp
  have HP1 : Aside0 (∀ X, Calls Tryd.prog 75 #[.string ⟨#[51, 53]⟩, .string ⟨#[70]⟩] X fun e w' => e = .returned (.string p1) ∧ Drawn0 X w') := ⟨fun X => spigotref12_Put.calls _ _ _ X e1⟩
  have HP2 : Aside0 (∀ X, Calls Tryd.prog 76 #[.string ⟨#[51, 52]⟩, .int .i64 q] X fun e w' => e = .returned (.string p2) ∧ Below X.heap.size X w') := ⟨fun X => spigotref12_Number.calls _ _ _ X e2⟩
  have HP3 : Aside0 (∀ X, Calls Tryd.prog 75 #[.string ⟨#[49, 49]⟩, .string nm] X fun e w' => e = .returned (.string p3) ∧ Drawn0 X w') := ⟨fun X => spigotref12_Put.calls _ _ _ X e3⟩
  have ES := Aside0.mk es
  have s1 : (9223372036854775807 < p1.size + p2.size) = False := eq_false (Nat.not_lt.2 (by (try simp only [ByteArray.size_append]); omega))
  have s2 : (9223372036854775807 < p1.size + p2.size + p3.size) = False := eq_false (Nat.not_lt.2 (by (try simp only [ByteArray.size_append]); omega))
  have s3 : (9223372036854775807 < ((p1 ++ p2)).size + (p3).size) = False := eq_false (Nat.not_lt.2 (by (try simp only [ByteArray.size_append]); omega))
  clear es e1 z1 l1 e2 z2 l2 e3 z3 l3
  have HS1 : (W.alloc (.cells #[.int .i64 2, .int .i64 q, .string nm, .string ⟨#[]⟩, .int .i64 0, .int .i64 0, .int .i64 0] 45)).heap.size = W.heap.size + 1 := World.size_alloc _ _
  have K0 := Aside0.mk (blk_alloc (blk_new W (.cells #[.int .i64 2, .int .i64 q, .string nm, .string ⟨#[]⟩, .int .i64 0, .int .i64 0, .int .i64 0] 45)) (.cells #[.string ⟨#[]⟩, .string ⟨#[68]⟩, .string ⟨#[70]⟩, .string ⟨#[71]⟩] 116))
  have A0 : Aside0 (((W.alloc (.cells #[.int .i64 2, .int .i64 q, .string nm, .string ⟨#[]⟩, .int .i64 0, .int .i64 0, .int .i64 0] 45)).alloc (.cells #[.string ⟨#[]⟩, .string ⟨#[68]⟩, .string ⟨#[70]⟩, .string ⟨#[71]⟩] 116)).heap[W.heap.size + 1]? = some (.cells #[.string ⟨#[]⟩, .string ⟨#[68]⟩, .string ⟨#[70]⟩, .string ⟨#[71]⟩] 116 (0, 0))) := ⟨by have h := blk_new (W.alloc (.cells #[.int .i64 2, .int .i64 q, .string nm, .string ⟨#[]⟩, .int .i64 0, .int .i64 0, .int .i64 0] 45)) (.cells #[.string ⟨#[]⟩, .string ⟨#[68]⟩, .string ⟨#[70]⟩, .string ⟨#[71]⟩] 116); rwa [HS1] at h⟩
  have B0 : Aside0 (Below W.heap.size W ((W.alloc (.cells #[.int .i64 2, .int .i64 q, .string nm, .string ⟨#[]⟩, .int .i64 0, .int .i64 0, .int .i64 0] 45)).alloc (.cells #[.string ⟨#[]⟩, .string ⟨#[68]⟩, .string ⟨#[70]⟩, .string ⟨#[71]⟩] 116))) := ⟨((Below.refl _ _).alloc (Nat.le_refl _) _).alloc (by rw [HS1]; omega) _⟩
  have HL0 : Aside0 (W.heap.size + 1 < ((W.alloc (.cells #[.int .i64 2, .int .i64 q, .string nm, .string ⟨#[]⟩, .int .i64 0, .int .i64 0, .int .i64 0] 45)).alloc (.cells #[.string ⟨#[]⟩, .string ⟨#[68]⟩, .string ⟨#[70]⟩, .string ⟨#[71]⟩] 116)).heap.size) := ⟨by rw [World.size_alloc, HS1]; omega⟩
  clear HS1
  go_enter Tryd.func28, Tryd.ntmps28
  go_wp2
  refine start_ (n := 14) (S := fun w' => (∀ i, w'.cell? ⟨W.heap.size, i, none⟩ = (#[.int .i64 2, .int .i64 q, .string nm, .string ⟨#[]⟩, .int .i64 0, .int .i64 0, .int .i64 0] : Array Value)[i]?) ∧ (∀ i, w'.cell? ⟨W.heap.size + 1, i, none⟩ = (#[.string ⟨#[]⟩, .string ⟨#[68]⟩, .string ⟨#[70]⟩, .string ⟨#[71]⟩] : Array Value)[i]?)) (ds := []) #[false, false, false, false, false, false, false, false, false, false, false, false, false, false] (by kernel_rfl) rfl rfl ⟨(fun i => blk_cell (w := ((W.alloc (.cells #[.int .i64 2, .int .i64 q, .string nm, .string ⟨#[]⟩, .int .i64 0, .int .i64 0, .int .i64 0] 45)).alloc (.cells #[.string ⟨#[]⟩, .string ⟨#[68]⟩, .string ⟨#[70]⟩, .string ⟨#[71]⟩] 116)).drew) K0.out i), (fun i => blk_cell (w := ((W.alloc (.cells #[.int .i64 2, .int .i64 q, .string nm, .string ⟨#[]⟩, .int .i64 0, .int .i64 0, .int .i64 0] 45)).alloc (.cells #[.string ⟨#[]⟩, .string ⟨#[68]⟩, .string ⟨#[70]⟩, .string ⟨#[71]⟩] 116)).drew) A0.out i)⟩ (fun hHeld => ?_)
  refine pure_ (i := 0) (N := some 6) (v := ?_) (a' := ?_) #[true, false, false, false, false, false, false, false, false, false, false, false, false, false] rfl rfl (by kernel_rfl) (fun _ _ _ h => h) (Or.inl ⟨by rfl, ?_⟩) ?_ ?_
  rotate_left
  · intro w'
    go_simp
    with_reducible rfl
  rotate_left
  · simp only [Act.put, List.setIfInBounds_toArray, List.set_cons_zero, List.set_cons_succ, i64_w, i32_w]
    rfl
  refine pure_ (i := 5) (N := some 11) (v := ?_) (a' := ?_) #[true, false, false, false, false, true, false, false, false, false, false, false, false, false] rfl rfl (by kernel_rfl) (fun _ _ _ h => h) (Or.inl ⟨by rfl, ?_⟩) ?_ ?_
  rotate_left
  · intro w'
    go_simp
    with_reducible rfl
  rotate_left
  · simp only [Act.put, List.setIfInBounds_toArray, List.set_cons_zero, List.set_cons_succ, i64_w, i32_w]
    rfl
  refine pure_ (i := 9) (N := some 15) (v := ?_) (a' := ?_) #[true, false, false, false, false, true, false, false, false, true, false, false, false, false] rfl rfl (by kernel_rfl) (fun _ _ _ h => h) (Or.inl ⟨by rfl, ?_⟩) ?_ ?_
  rotate_left
  · intro w'
    go_simp
    with_reducible rfl
  rotate_left
  · simp only [Act.put, List.setIfInBounds_toArray, List.set_cons_zero, List.set_cons_succ, i64_w, i32_w]
    rfl
  refine take_ (i := 1) (N := some 7) (v := ?_) (a' := ?_) #[true, true, false, false, false, true, false, false, false, true, false, false, false, false] rfl rfl (by kernel_rfl) (fun _ _ _ h => h) (Or.inl ⟨by rfl, ?_⟩) hHeld ?_ ?_
  rotate_left
  · rintro w' ⟨s0, s1⟩
    go_simp
    with_reducible rfl
  rotate_left
  · simp only [Act.put, List.setIfInBounds_toArray, List.set_cons_zero, List.set_cons_succ, i64_w, i32_w]
    rfl
  refine pure_ (i := 2) (N := some 8) (v := ?_) (a' := ?_) #[true, true, true, false, false, true, false, false, false, true, false, false, false, false] rfl rfl (by kernel_rfl) (fun _ _ _ h => h) (Or.inl ⟨by rfl, ?_⟩) ?_ ?_
  rotate_left
  · intro w'
    go_simp
    with_reducible rfl
  rotate_left
  · simp only [Act.put, List.setIfInBounds_toArray, List.set_cons_zero, List.set_cons_succ, i64_w, i32_w]
    rfl
  refine take_ (i := 3) (N := some 9) (v := ?_) (a' := ?_) #[true, true, true, true, false, true, false, false, false, true, false, false, false, false] rfl rfl (by kernel_rfl) (fun _ _ _ h => h) (Or.inl ⟨by rfl, ?_⟩) hHeld ?_ ?_
  rotate_left
  · rintro w' ⟨s0, s1⟩
    go_simp
    with_reducible rfl
  rotate_left
  · simp only [Act.put, List.setIfInBounds_toArray, List.set_cons_zero, List.set_cons_succ, i64_w, i32_w]
    rfl
  refine take_ (i := 6) (N := some 12) (v := ?_) (a' := ?_) #[true, true, true, true, false, true, true, false, false, true, false, false, false, false] rfl rfl (by kernel_rfl) (fun _ _ _ h => h) (Or.inl ⟨by rfl, ?_⟩) hHeld ?_ ?_
  rotate_left
  · rintro w' ⟨s0, s1⟩
    go_simp
    with_reducible rfl
  rotate_left
  · simp only [Act.put, List.setIfInBounds_toArray, List.set_cons_zero, List.set_cons_succ, i64_w, i32_w]
    rfl
  refine take_ (i := 10) (N := some 16) (v := ?_) (a' := ?_) #[true, true, true, true, false, true, true, false, false, true, true, false, false, false] rfl rfl (by kernel_rfl) (fun _ _ _ h => h) (Or.inl ⟨by rfl, ?_⟩) hHeld ?_ ?_
  rotate_left
  · rintro w' ⟨s0, s1⟩
    go_simp
    with_reducible rfl
  rotate_left
  · simp only [Act.put, List.setIfInBounds_toArray, List.set_cons_zero, List.set_cons_succ, i64_w, i32_w]
    rfl
  refine one_ (i := 4) (N := some 10) #[true, true, true, true, true, true, true, false, false, true, true, false, false, false] rfl rfl (by kernel_rfl) (by decide) (fun K hK => ?_)
  refine goes_ Tryd.func75 (by kernel_rfl) rfl #[.string ⟨#[51, 53]⟩, .string ⟨#[70]⟩] (by rfl) rfl rfl (by simp only [List.map_toArray, List.map_cons, List.map_nil]; rfl) ?_
  with_reducible refine (HP1.out _).mono ?_
  rintro e w1 ⟨rfl, hd1⟩
  refine ⟨_, rfl, ?_⟩
  have hb1 := hd1.below
  have B1 := Aside0.mk (show Below W.heap.size W w1 from (by first | exact B0.out.trans (hb1.mono B0.out.size) | exact (Below.drew B0.out).trans (hb1.mono B0.out.size)))
  have HL1 : Aside0 (W.heap.size + 1 < w1.heap.size) := ⟨Nat.lt_of_lt_of_le HL0.out hb1.size⟩
  refine hK.out _ _ ⟨(fun i => (hb1.cell (p := ⟨W.heap.size, i, none⟩) (Nat.lt_of_le_of_lt (by first | exact Nat.le_refl _ | exact Nat.le_succ _) HL0.out)).trans (hHeld.1 i)), (fun i => (hb1.cell (p := ⟨W.heap.size + 1, i, none⟩) (Nat.lt_of_le_of_lt (by first | exact Nat.le_refl _ | exact Nat.le_succ _) HL0.out)).trans (hHeld.2 i))⟩ (fun hHeld => ?_)
  clear hK K
  refine norm_ (a' := ?_) ?_ ?_
  rotate_left
  · show Act.put _ (some 10) _ = _
    simp only [Act.put, List.setIfInBounds_toArray, List.set_cons_zero, List.set_cons_succ, i64_w, i32_w]
    rfl
  refine one_ (i := 7) (N := some 13) #[true, true, true, true, true, true, true, true, false, true, true, false, false, false] rfl rfl (by kernel_rfl) (by decide) (fun K hK => ?_)
  refine goes_ Tryd.func76 (by kernel_rfl) rfl #[.string ⟨#[51, 52]⟩, .int .i64 q] (by rfl) rfl rfl (by simp only [List.map_toArray, List.map_cons, List.map_nil]; rfl) ?_
  with_reducible refine (HP2.out _).mono ?_
  rintro e w2 ⟨rfl, hb2⟩
  refine ⟨_, rfl, ?_⟩
  have B2 := Aside0.mk (show Below W.heap.size W w2 from (by first | exact B1.out.trans (hb2.mono B1.out.size) | exact (Below.drew B1.out).trans (hb2.mono B1.out.size)))
  have HL2 : Aside0 (W.heap.size + 1 < w2.heap.size) := ⟨Nat.lt_of_lt_of_le HL1.out hb2.size⟩
  refine hK.out _ _ ⟨(fun i => (hb2.cell (p := ⟨W.heap.size, i, none⟩) (Nat.lt_of_le_of_lt (by first | exact Nat.le_refl _ | exact Nat.le_succ _) HL1.out)).trans (hHeld.1 i)), (fun i => (hb2.cell (p := ⟨W.heap.size + 1, i, none⟩) (Nat.lt_of_le_of_lt (by first | exact Nat.le_refl _ | exact Nat.le_succ _) HL1.out)).trans (hHeld.2 i))⟩ (fun hHeld => ?_)
  clear hK K
  refine norm_ (a' := ?_) ?_ ?_
  rotate_left
  · show Act.put _ (some 13) _ = _
    simp only [Act.put, List.setIfInBounds_toArray, List.set_cons_zero, List.set_cons_succ, i64_w, i32_w]
    rfl
  refine pure_ (i := 8) (N := some 14) (v := ?_) (a' := ?_) #[true, true, true, true, true, true, true, true, true, true, true, false, false, false] rfl rfl (by kernel_rfl) (fun _ _ _ h => h) (Or.inl ⟨by rfl, ?_⟩) ?_ ?_
  rotate_left
  · intro w'
    go_simp
    with_reducible rfl
  rotate_left
  · simp only [Act.put, List.setIfInBounds_toArray, List.set_cons_zero, List.set_cons_succ, i64_w, i32_w]
    rfl
  refine one_ (i := 11) (N := some 17) #[true, true, true, true, true, true, true, true, true, true, true, true, false, false] rfl rfl (by kernel_rfl) (by decide) (fun K hK => ?_)
  refine goes_ Tryd.func75 (by kernel_rfl) rfl #[.string ⟨#[49, 49]⟩, .string nm] (by rfl) rfl rfl (by simp only [List.map_toArray, List.map_cons, List.map_nil]; rfl) ?_
  with_reducible refine (HP3.out _).mono ?_
  rintro e w3 ⟨rfl, hd3⟩
  refine ⟨_, rfl, ?_⟩
  have hb3 := hd3.below
  have B3 := Aside0.mk (show Below W.heap.size W w3 from (by first | exact B2.out.trans (hb3.mono B2.out.size) | exact (Below.drew B2.out).trans (hb3.mono B2.out.size)))
  have HL3 : Aside0 (W.heap.size + 1 < w3.heap.size) := ⟨Nat.lt_of_lt_of_le HL2.out hb3.size⟩
  refine hK.out _ _ ⟨(fun i => (hb3.cell (p := ⟨W.heap.size, i, none⟩) (Nat.lt_of_le_of_lt (by first | exact Nat.le_refl _ | exact Nat.le_succ _) HL2.out)).trans (hHeld.1 i)), (fun i => (hb3.cell (p := ⟨W.heap.size + 1, i, none⟩) (Nat.lt_of_le_of_lt (by first | exact Nat.le_refl _ | exact Nat.le_succ _) HL2.out)).trans (hHeld.2 i))⟩ (fun hHeld => ?_)
  clear hK K
  refine norm_ (a' := ?_) ?_ ?_
  rotate_left
  · show Act.put _ (some 17) _ = _
    simp only [Act.put, List.setIfInBounds_toArray, List.set_cons_zero, List.set_cons_succ, i64_w, i32_w]
    rfl
  refine pure_ (i := 12) (N := some 18) (v := ?_) (a' := ?_) #[true, true, true, true, true, true, true, true, true, true, true, true, true, false] rfl rfl (by kernel_rfl) (fun _ _ _ h => h) (Or.inl ⟨by rfl, ?_⟩) ?_ ?_
  rotate_left
  · intro w'
    go_simp
    with_reducible rfl
  rotate_left
  · simp only [Act.put, List.setIfInBounds_toArray, List.set_cons_zero, List.set_cons_succ, i64_w, i32_w]
    rfl
  refine pure_ (i := 13) (N := some 4) (v := ?_) (a' := ?_) #[true, true, true, true, true, true, true, true, true, true, true, true, true, true] rfl rfl (by kernel_rfl) (fun _ _ _ h => h) (Or.inl ⟨by rfl, ?_⟩) ?_ ?_
  rotate_left
  · intro w'
    go_simp
    with_reducible rfl
  rotate_left
  · simp only [Act.put, List.setIfInBounds_toArray, List.set_cons_zero, List.set_cons_succ, i64_w, i32_w]
    rfl
  refine done_ (by kernel_rfl) ?_
  have K3 : Aside0 (w3.heap[W.heap.size]? = some (.cells #[.int .i64 2, .int .i64 q, .string nm, .string ⟨#[]⟩, .int .i64 0, .int .i64 0, .int .i64 0] 45 (0, 0))) := ⟨(blk_below (w := w2) (blk_below (w := w1) (blk_below (w := ((W.alloc (.cells #[.int .i64 2, .int .i64 q, .string nm, .string ⟨#[]⟩, .int .i64 0, .int .i64 0, .int .i64 0] 45)).alloc (.cells #[.string ⟨#[]⟩, .string ⟨#[68]⟩, .string ⟨#[70]⟩, .string ⟨#[71]⟩] 116)).drew) K0.out ⟨hb1.os, hb1.tape, hb1.output, hb1.size, hb1.block⟩) ⟨hb2.os, hb2.tape, hb2.output, hb2.size, hb2.block⟩) ⟨hb3.os, hb3.tape, hb3.output, hb3.size, hb3.block⟩)⟩
  have A3 : Aside0 (w3.heap[W.heap.size + 1]? = some (.cells #[.string ⟨#[]⟩, .string ⟨#[68]⟩, .string ⟨#[70]⟩, .string ⟨#[71]⟩] 116 (0, 0))) := ⟨(blk_below (w := w2) (blk_below (w := w1) (blk_below (w := ((W.alloc (.cells #[.int .i64 2, .int .i64 q, .string nm, .string ⟨#[]⟩, .int .i64 0, .int .i64 0, .int .i64 0] 45)).alloc (.cells #[.string ⟨#[]⟩, .string ⟨#[68]⟩, .string ⟨#[70]⟩, .string ⟨#[71]⟩] 116)).drew) A0.out ⟨hb1.os, hb1.tape, hb1.output, hb1.size, hb1.block⟩) ⟨hb2.os, hb2.tape, hb2.output, hb2.size, hb2.block⟩) ⟨hb3.os, hb3.tape, hb3.output, hb3.size, hb3.block⟩)⟩
  (try clear hc)
  have hc := fun i => blk_cell K3.out i
  (try clear hca)
  have hca := fun i => blk_cell A3.out i
  clear hb1 hb2 hb3
  go_wp2
  go_ret
  exact ⟨by rw [← ES.out]; rfl, B3.out⟩
set_option maxRecDepth 100000 in
set_option maxHeartbeats 8000000 in
theorem ordform_3 (q z p : Int) (nm : ByteArray) (hq : 1 ≤ q ∧ q ≤ 1099511627776) (hz : 1 ≤ z ∧ z ≤ 1099511627776) (hp : 1 ≤ p ∧ p ≤ 1099511627776) (hi : nm.size ≤ 200) (W : World) : Calls Tryd.prog 28 #[.agg #[.int .i64 3, .int .i64 q, .string nm, .string ⟨#[]⟩, .int .i64 0, .int .i64 z, .int .i64 p]] W fun e w' => e = .returned (.string ⟨((((ordF ⟨3, q, nm, ⟨#[]⟩, 0, z, p⟩).map pairF).map fieldL).flatten).toArray⟩) ∧ Below W.heap.size W w' := by
  obtain ⟨p1, e1, z1, l1⟩ := putF_ok ⟨#[51, 53]⟩ ⟨#[71]⟩ (by decide) (by decide)
  obtain ⟨p2, e2, z2, l2⟩ := numF_ok ⟨#[51, 52]⟩ q (by decide) (by omega) (by omega)
  obtain ⟨p3, e3, z3, l3⟩ := putF_ok ⟨#[49, 49]⟩ nm (by decide) (by omega)
  obtain ⟨p4, e4, z4, l4⟩ := numF_ok ⟨#[51, 56]⟩ z (by decide) (by omega) (by omega)
  obtain ⟨p5, e5, z5, l5⟩ := numF_ok ⟨#[52, 52]⟩ p (by decide) (by omega) (by omega)
  have es : (((p1 ++ p2) ++ p3) ++ (p4 ++ p5)) = ⟨((((ordF ⟨3, q, nm, ⟨#[]⟩, 0, z, p⟩).map pairF).map fieldL).flatten).toArray⟩ := by
    apply ba_ext
    rw [show ordF ⟨3, q, nm, ⟨#[]⟩, 0, z, p⟩ = [⟨35, ⟨#[71]⟩⟩, ⟨34, digitsB q⟩, ⟨11, nm⟩, ⟨38, digitsB z⟩, ⟨44, digitsB p⟩] from rfl]
    simp only [List.map_cons, List.map_nil, pairF, List.flatten_cons, List.flatten_nil, gl35, gl34, gl11, gl38, gl44, ByteArray.toList_data_append, l1, l2, l3, l4, l5]
    simp
  have HP1 : Aside0 (∀ X, Calls Tryd.prog 75 #[.string ⟨#[51, 53]⟩, .string ⟨#[71]⟩] X fun e w' => e = .returned (.string p1) ∧ Drawn0 X w') := ⟨fun X => spigotref12_Put.calls _ _ _ X e1⟩
  have HP2 : Aside0 (∀ X, Calls Tryd.prog 76 #[.string ⟨#[51, 52]⟩, .int .i64 q] X fun e w' => e = .returned (.string p2) ∧ Below X.heap.size X w') := ⟨fun X => spigotref12_Number.calls _ _ _ X e2⟩
  have HP3 : Aside0 (∀ X, Calls Tryd.prog 75 #[.string ⟨#[49, 49]⟩, .string nm] X fun e w' => e = .returned (.string p3) ∧ Drawn0 X w') := ⟨fun X => spigotref12_Put.calls _ _ _ X e3⟩
  have HP4 : Aside0 (∀ X, Calls Tryd.prog 76 #[.string ⟨#[51, 56]⟩, .int .i64 z] X fun e w' => e = .returned (.string p4) ∧ Below X.heap.size X w') := ⟨fun X => spigotref12_Number.calls _ _ _ X e4⟩
  have HP5 : Aside0 (∀ X, Calls Tryd.prog 76 #[.string ⟨#[52, 52]⟩, .int .i64 p] X fun e w' => e = .returned (.string p5) ∧ Below X.heap.size X w') := ⟨fun X => spigotref12_Number.calls _ _ _ X e5⟩
  have ES := Aside0.mk es
  have s1 : (9223372036854775807 < p1.size + p2.size) = False := eq_false (Nat.not_lt.2 (by (try simp only [ByteArray.size_append]); omega))
  have s2 : (9223372036854775807 < p1.size + p2.size + p3.size) = False := eq_false (Nat.not_lt.2 (by (try simp only [ByteArray.size_append]); omega))
  have s3 : (9223372036854775807 < ((p1 ++ p2)).size + (p3).size) = False := eq_false (Nat.not_lt.2 (by (try simp only [ByteArray.size_append]); omega))
  have s4 : (9223372036854775807 < p4.size + p5.size) = False := eq_false (Nat.not_lt.2 (by (try simp only [ByteArray.size_append]); omega))
  have s5 : (9223372036854775807 < (((p1 ++ p2) ++ p3)).size + ((p4 ++ p5)).size) = False := eq_false (Nat.not_lt.2 (by (try simp only [ByteArray.size_append]); omega))
  have s6 : (9223372036854775807 < p1.size + p2.size + p3.size + (p4.size + p5.size)) = False := eq_false (Nat.not_lt.2 (by (try simp only [ByteArray.size_append]); omega))
  clear es e1 z1 l1 e2 z2 l2 e3 z3 l3 e4 z4 l4 e5 z5 l5
  have HS1 : (W.alloc (.cells #[.int .i64 3, .int .i64 q, .string nm, .string ⟨#[]⟩, .int .i64 0, .int .i64 z, .int .i64 p] 45)).heap.size = W.heap.size + 1 := World.size_alloc _ _
  have K0 := Aside0.mk (blk_alloc (blk_new W (.cells #[.int .i64 3, .int .i64 q, .string nm, .string ⟨#[]⟩, .int .i64 0, .int .i64 z, .int .i64 p] 45)) (.cells #[.string ⟨#[]⟩, .string ⟨#[68]⟩, .string ⟨#[70]⟩, .string ⟨#[71]⟩] 116))
  have A0 : Aside0 (((W.alloc (.cells #[.int .i64 3, .int .i64 q, .string nm, .string ⟨#[]⟩, .int .i64 0, .int .i64 z, .int .i64 p] 45)).alloc (.cells #[.string ⟨#[]⟩, .string ⟨#[68]⟩, .string ⟨#[70]⟩, .string ⟨#[71]⟩] 116)).heap[W.heap.size + 1]? = some (.cells #[.string ⟨#[]⟩, .string ⟨#[68]⟩, .string ⟨#[70]⟩, .string ⟨#[71]⟩] 116 (0, 0))) := ⟨by have h := blk_new (W.alloc (.cells #[.int .i64 3, .int .i64 q, .string nm, .string ⟨#[]⟩, .int .i64 0, .int .i64 z, .int .i64 p] 45)) (.cells #[.string ⟨#[]⟩, .string ⟨#[68]⟩, .string ⟨#[70]⟩, .string ⟨#[71]⟩] 116); rwa [HS1] at h⟩
  have B0 : Aside0 (Below W.heap.size W ((W.alloc (.cells #[.int .i64 3, .int .i64 q, .string nm, .string ⟨#[]⟩, .int .i64 0, .int .i64 z, .int .i64 p] 45)).alloc (.cells #[.string ⟨#[]⟩, .string ⟨#[68]⟩, .string ⟨#[70]⟩, .string ⟨#[71]⟩] 116))) := ⟨((Below.refl _ _).alloc (Nat.le_refl _) _).alloc (by rw [HS1]; omega) _⟩
  have HL0 : Aside0 (W.heap.size + 1 < ((W.alloc (.cells #[.int .i64 3, .int .i64 q, .string nm, .string ⟨#[]⟩, .int .i64 0, .int .i64 z, .int .i64 p] 45)).alloc (.cells #[.string ⟨#[]⟩, .string ⟨#[68]⟩, .string ⟨#[70]⟩, .string ⟨#[71]⟩] 116)).heap.size) := ⟨by rw [World.size_alloc, HS1]; omega⟩
  clear HS1
  go_enter Tryd.func28, Tryd.ntmps28
  go_wp2
  refine start_ (n := 14) (S := fun w' => (∀ i, w'.cell? ⟨W.heap.size, i, none⟩ = (#[.int .i64 3, .int .i64 q, .string nm, .string ⟨#[]⟩, .int .i64 0, .int .i64 z, .int .i64 p] : Array Value)[i]?) ∧ (∀ i, w'.cell? ⟨W.heap.size + 1, i, none⟩ = (#[.string ⟨#[]⟩, .string ⟨#[68]⟩, .string ⟨#[70]⟩, .string ⟨#[71]⟩] : Array Value)[i]?)) (ds := []) #[false, false, false, false, false, false, false, false, false, false, false, false, false, false] (by kernel_rfl) rfl rfl ⟨(fun i => blk_cell (w := ((W.alloc (.cells #[.int .i64 3, .int .i64 q, .string nm, .string ⟨#[]⟩, .int .i64 0, .int .i64 z, .int .i64 p] 45)).alloc (.cells #[.string ⟨#[]⟩, .string ⟨#[68]⟩, .string ⟨#[70]⟩, .string ⟨#[71]⟩] 116)).drew) K0.out i), (fun i => blk_cell (w := ((W.alloc (.cells #[.int .i64 3, .int .i64 q, .string nm, .string ⟨#[]⟩, .int .i64 0, .int .i64 z, .int .i64 p] 45)).alloc (.cells #[.string ⟨#[]⟩, .string ⟨#[68]⟩, .string ⟨#[70]⟩, .string ⟨#[71]⟩] 116)).drew) A0.out i)⟩ (fun hHeld => ?_)
  refine pure_ (i := 0) (N := some 6) (v := ?_) (a' := ?_) #[true, false, false, false, false, false, false, false, false, false, false, false, false, false] rfl rfl (by kernel_rfl) (fun _ _ _ h => h) (Or.inl ⟨by rfl, ?_⟩) ?_ ?_
  rotate_left
  · intro w'
    go_simp
    with_reducible rfl
  rotate_left
  · simp only [Act.put, List.setIfInBounds_toArray, List.set_cons_zero, List.set_cons_succ, i64_w, i32_w]
    rfl
  refine pure_ (i := 5) (N := some 11) (v := ?_) (a' := ?_) #[true, false, false, false, false, true, false, false, false, false, false, false, false, false] rfl rfl (by kernel_rfl) (fun _ _ _ h => h) (Or.inl ⟨by rfl, ?_⟩) ?_ ?_
  rotate_left
  · intro w'
    go_simp
    with_reducible rfl
  rotate_left
  · simp only [Act.put, List.setIfInBounds_toArray, List.set_cons_zero, List.set_cons_succ, i64_w, i32_w]
    rfl
  refine pure_ (i := 9) (N := some 15) (v := ?_) (a' := ?_) #[true, false, false, false, false, true, false, false, false, true, false, false, false, false] rfl rfl (by kernel_rfl) (fun _ _ _ h => h) (Or.inl ⟨by rfl, ?_⟩) ?_ ?_
  rotate_left
  · intro w'
    go_simp
    with_reducible rfl
  rotate_left
  · simp only [Act.put, List.setIfInBounds_toArray, List.set_cons_zero, List.set_cons_succ, i64_w, i32_w]
    rfl
  refine take_ (i := 1) (N := some 7) (v := ?_) (a' := ?_) #[true, true, false, false, false, true, false, false, false, true, false, false, false, false] rfl rfl (by kernel_rfl) (fun _ _ _ h => h) (Or.inl ⟨by rfl, ?_⟩) hHeld ?_ ?_
  rotate_left
  · rintro w' ⟨s0, s1⟩
    go_simp
    with_reducible rfl
  rotate_left
  · simp only [Act.put, List.setIfInBounds_toArray, List.set_cons_zero, List.set_cons_succ, i64_w, i32_w]
    rfl
  refine pure_ (i := 2) (N := some 8) (v := ?_) (a' := ?_) #[true, true, true, false, false, true, false, false, false, true, false, false, false, false] rfl rfl (by kernel_rfl) (fun _ _ _ h => h) (Or.inl ⟨by rfl, ?_⟩) ?_ ?_
  rotate_left
  · intro w'
    go_simp
    with_reducible rfl
  rotate_left
  · simp only [Act.put, List.setIfInBounds_toArray, List.set_cons_zero, List.set_cons_succ, i64_w, i32_w]
    rfl
  refine take_ (i := 3) (N := some 9) (v := ?_) (a' := ?_) #[true, true, true, true, false, true, false, false, false, true, false, false, false, false] rfl rfl (by kernel_rfl) (fun _ _ _ h => h) (Or.inl ⟨by rfl, ?_⟩) hHeld ?_ ?_
  rotate_left
  · rintro w' ⟨s0, s1⟩
    go_simp
    with_reducible rfl
  rotate_left
  · simp only [Act.put, List.setIfInBounds_toArray, List.set_cons_zero, List.set_cons_succ, i64_w, i32_w]
    rfl
  refine take_ (i := 6) (N := some 12) (v := ?_) (a' := ?_) #[true, true, true, true, false, true, true, false, false, true, false, false, false, false] rfl rfl (by kernel_rfl) (fun _ _ _ h => h) (Or.inl ⟨by rfl, ?_⟩) hHeld ?_ ?_
  rotate_left
  · rintro w' ⟨s0, s1⟩
    go_simp
    with_reducible rfl
  rotate_left
  · simp only [Act.put, List.setIfInBounds_toArray, List.set_cons_zero, List.set_cons_succ, i64_w, i32_w]
    rfl
  refine take_ (i := 10) (N := some 16) (v := ?_) (a' := ?_) #[true, true, true, true, false, true, true, false, false, true, true, false, false, false] rfl rfl (by kernel_rfl) (fun _ _ _ h => h) (Or.inl ⟨by rfl, ?_⟩) hHeld ?_ ?_
  rotate_left
  · rintro w' ⟨s0, s1⟩
    go_simp
    with_reducible rfl
  rotate_left
  · simp only [Act.put, List.setIfInBounds_toArray, List.set_cons_zero, List.set_cons_succ, i64_w, i32_w]
    rfl
  refine one_ (i := 4) (N := some 10) #[true, true, true, true, true, true, true, false, false, true, true, false, false, false] rfl rfl (by kernel_rfl) (by decide) (fun K hK => ?_)
  refine goes_ Tryd.func75 (by kernel_rfl) rfl #[.string ⟨#[51, 53]⟩, .string ⟨#[71]⟩] (by rfl) rfl rfl (by simp only [List.map_toArray, List.map_cons, List.map_nil]; rfl) ?_
  with_reducible refine (HP1.out _).mono ?_
  rintro e w1 ⟨rfl, hd1⟩
  refine ⟨_, rfl, ?_⟩
  have hb1 := hd1.below
  have B1 := Aside0.mk (show Below W.heap.size W w1 from (by first | exact B0.out.trans (hb1.mono B0.out.size) | exact (Below.drew B0.out).trans (hb1.mono B0.out.size)))
  have HL1 : Aside0 (W.heap.size + 1 < w1.heap.size) := ⟨Nat.lt_of_lt_of_le HL0.out hb1.size⟩
  refine hK.out _ _ ⟨(fun i => (hb1.cell (p := ⟨W.heap.size, i, none⟩) (Nat.lt_of_le_of_lt (by first | exact Nat.le_refl _ | exact Nat.le_succ _) HL0.out)).trans (hHeld.1 i)), (fun i => (hb1.cell (p := ⟨W.heap.size + 1, i, none⟩) (Nat.lt_of_le_of_lt (by first | exact Nat.le_refl _ | exact Nat.le_succ _) HL0.out)).trans (hHeld.2 i))⟩ (fun hHeld => ?_)
  clear hK K
  refine norm_ (a' := ?_) ?_ ?_
  rotate_left
  · show Act.put _ (some 10) _ = _
    simp only [Act.put, List.setIfInBounds_toArray, List.set_cons_zero, List.set_cons_succ, i64_w, i32_w]
    rfl
  refine one_ (i := 7) (N := some 13) #[true, true, true, true, true, true, true, true, false, true, true, false, false, false] rfl rfl (by kernel_rfl) (by decide) (fun K hK => ?_)
  refine goes_ Tryd.func76 (by kernel_rfl) rfl #[.string ⟨#[51, 52]⟩, .int .i64 q] (by rfl) rfl rfl (by simp only [List.map_toArray, List.map_cons, List.map_nil]; rfl) ?_
  with_reducible refine (HP2.out _).mono ?_
  rintro e w2 ⟨rfl, hb2⟩
  refine ⟨_, rfl, ?_⟩
  have B2 := Aside0.mk (show Below W.heap.size W w2 from (by first | exact B1.out.trans (hb2.mono B1.out.size) | exact (Below.drew B1.out).trans (hb2.mono B1.out.size)))
  have HL2 : Aside0 (W.heap.size + 1 < w2.heap.size) := ⟨Nat.lt_of_lt_of_le HL1.out hb2.size⟩
  refine hK.out _ _ ⟨(fun i => (hb2.cell (p := ⟨W.heap.size, i, none⟩) (Nat.lt_of_le_of_lt (by first | exact Nat.le_refl _ | exact Nat.le_succ _) HL1.out)).trans (hHeld.1 i)), (fun i => (hb2.cell (p := ⟨W.heap.size + 1, i, none⟩) (Nat.lt_of_le_of_lt (by first | exact Nat.le_refl _ | exact Nat.le_succ _) HL1.out)).trans (hHeld.2 i))⟩ (fun hHeld => ?_)
  clear hK K
  refine norm_ (a' := ?_) ?_ ?_
  rotate_left
  · show Act.put _ (some 13) _ = _
    simp only [Act.put, List.setIfInBounds_toArray, List.set_cons_zero, List.set_cons_succ, i64_w, i32_w]
    rfl
  refine pure_ (i := 8) (N := some 14) (v := ?_) (a' := ?_) #[true, true, true, true, true, true, true, true, true, true, true, false, false, false] rfl rfl (by kernel_rfl) (fun _ _ _ h => h) (Or.inl ⟨by rfl, ?_⟩) ?_ ?_
  rotate_left
  · intro w'
    go_simp
    with_reducible rfl
  rotate_left
  · simp only [Act.put, List.setIfInBounds_toArray, List.set_cons_zero, List.set_cons_succ, i64_w, i32_w]
    rfl
  refine one_ (i := 11) (N := some 17) #[true, true, true, true, true, true, true, true, true, true, true, true, false, false] rfl rfl (by kernel_rfl) (by decide) (fun K hK => ?_)
  refine goes_ Tryd.func75 (by kernel_rfl) rfl #[.string ⟨#[49, 49]⟩, .string nm] (by rfl) rfl rfl (by simp only [List.map_toArray, List.map_cons, List.map_nil]; rfl) ?_
  with_reducible refine (HP3.out _).mono ?_
  rintro e w3 ⟨rfl, hd3⟩
  refine ⟨_, rfl, ?_⟩
  have hb3 := hd3.below
  have B3 := Aside0.mk (show Below W.heap.size W w3 from (by first | exact B2.out.trans (hb3.mono B2.out.size) | exact (Below.drew B2.out).trans (hb3.mono B2.out.size)))
  have HL3 : Aside0 (W.heap.size + 1 < w3.heap.size) := ⟨Nat.lt_of_lt_of_le HL2.out hb3.size⟩
  refine hK.out _ _ ⟨(fun i => (hb3.cell (p := ⟨W.heap.size, i, none⟩) (Nat.lt_of_le_of_lt (by first | exact Nat.le_refl _ | exact Nat.le_succ _) HL2.out)).trans (hHeld.1 i)), (fun i => (hb3.cell (p := ⟨W.heap.size + 1, i, none⟩) (Nat.lt_of_le_of_lt (by first | exact Nat.le_refl _ | exact Nat.le_succ _) HL2.out)).trans (hHeld.2 i))⟩ (fun hHeld => ?_)
  clear hK K
  refine norm_ (a' := ?_) ?_ ?_
  rotate_left
  · show Act.put _ (some 17) _ = _
    simp only [Act.put, List.setIfInBounds_toArray, List.set_cons_zero, List.set_cons_succ, i64_w, i32_w]
    rfl
  refine pure_ (i := 12) (N := some 18) (v := ?_) (a' := ?_) #[true, true, true, true, true, true, true, true, true, true, true, true, true, false] rfl rfl (by kernel_rfl) (fun _ _ _ h => h) (Or.inl ⟨by rfl, ?_⟩) ?_ ?_
  rotate_left
  · intro w'
    go_simp
    with_reducible rfl
  rotate_left
  · simp only [Act.put, List.setIfInBounds_toArray, List.set_cons_zero, List.set_cons_succ, i64_w, i32_w]
    rfl
  refine pure_ (i := 13) (N := some 4) (v := ?_) (a' := ?_) #[true, true, true, true, true, true, true, true, true, true, true, true, true, true] rfl rfl (by kernel_rfl) (fun _ _ _ h => h) (Or.inl ⟨by rfl, ?_⟩) ?_ ?_
  rotate_left
  · intro w'
    go_simp
    with_reducible rfl
  rotate_left
  · simp only [Act.put, List.setIfInBounds_toArray, List.set_cons_zero, List.set_cons_succ, i64_w, i32_w]
    rfl
  refine done_ (by kernel_rfl) ?_
  have K3 : Aside0 (w3.heap[W.heap.size]? = some (.cells #[.int .i64 3, .int .i64 q, .string nm, .string ⟨#[]⟩, .int .i64 0, .int .i64 z, .int .i64 p] 45 (0, 0))) := ⟨(blk_below (w := w2) (blk_below (w := w1) (blk_below (w := ((W.alloc (.cells #[.int .i64 3, .int .i64 q, .string nm, .string ⟨#[]⟩, .int .i64 0, .int .i64 z, .int .i64 p] 45)).alloc (.cells #[.string ⟨#[]⟩, .string ⟨#[68]⟩, .string ⟨#[70]⟩, .string ⟨#[71]⟩] 116)).drew) K0.out ⟨hb1.os, hb1.tape, hb1.output, hb1.size, hb1.block⟩) ⟨hb2.os, hb2.tape, hb2.output, hb2.size, hb2.block⟩) ⟨hb3.os, hb3.tape, hb3.output, hb3.size, hb3.block⟩)⟩
  have A3 : Aside0 (w3.heap[W.heap.size + 1]? = some (.cells #[.string ⟨#[]⟩, .string ⟨#[68]⟩, .string ⟨#[70]⟩, .string ⟨#[71]⟩] 116 (0, 0))) := ⟨(blk_below (w := w2) (blk_below (w := w1) (blk_below (w := ((W.alloc (.cells #[.int .i64 3, .int .i64 q, .string nm, .string ⟨#[]⟩, .int .i64 0, .int .i64 z, .int .i64 p] 45)).alloc (.cells #[.string ⟨#[]⟩, .string ⟨#[68]⟩, .string ⟨#[70]⟩, .string ⟨#[71]⟩] 116)).drew) A0.out ⟨hb1.os, hb1.tape, hb1.output, hb1.size, hb1.block⟩) ⟨hb2.os, hb2.tape, hb2.output, hb2.size, hb2.block⟩) ⟨hb3.os, hb3.tape, hb3.output, hb3.size, hb3.block⟩)⟩
  (try clear hc)
  have hc := fun i => blk_cell K3.out i
  (try clear hca)
  have hca := fun i => blk_cell A3.out i
  clear hb1 hb2 hb3
  go_wp2
  refine start_ (n := 10) (S := fun w' => (∀ i, w'.cell? ⟨W.heap.size, i, none⟩ = (#[.int .i64 3, .int .i64 q, .string nm, .string ⟨#[]⟩, .int .i64 0, .int .i64 z, .int .i64 p] : Array Value)[i]?) ∧ (∀ i, w'.cell? ⟨W.heap.size + 1, i, none⟩ = (#[.string ⟨#[]⟩, .string ⟨#[68]⟩, .string ⟨#[70]⟩, .string ⟨#[71]⟩] : Array Value)[i]?)) (ds := []) #[false, false, false, false, false, false, false, false, false, false] (by kernel_rfl) rfl rfl ⟨(fun i => blk_cell (w := w3.drew) K3.out i), (fun i => blk_cell (w := w3.drew) A3.out i)⟩ (fun hHeld => ?_)
  refine pure_ (i := 0) (N := some 34) (v := ?_) (a' := ?_) #[true, false, false, false, false, false, false, false, false, false] rfl rfl (by kernel_rfl) (fun _ _ _ h => h) (Or.inl ⟨by rfl, ?_⟩) ?_ ?_
  rotate_left
  · intro w'
    go_simp
    with_reducible rfl
  rotate_left
  · simp only [Act.put, List.setIfInBounds_toArray, List.set_cons_zero, List.set_cons_succ, i64_w, i32_w]
    rfl
  refine pure_ (i := 1) (N := some 35) (v := ?_) (a' := ?_) #[true, true, false, false, false, false, false, false, false, false] rfl rfl (by kernel_rfl) (fun _ _ _ h => h) (Or.inl ⟨by rfl, ?_⟩) ?_ ?_
  rotate_left
  · intro w'
    go_simp
    with_reducible rfl
  rotate_left
  · simp only [Act.put, List.setIfInBounds_toArray, List.set_cons_zero, List.set_cons_succ, i64_w, i32_w]
    rfl
  refine pure_ (i := 4) (N := some 38) (v := ?_) (a' := ?_) #[true, true, false, false, true, false, false, false, false, false] rfl rfl (by kernel_rfl) (fun _ _ _ h => h) (Or.inl ⟨by rfl, ?_⟩) ?_ ?_
  rotate_left
  · intro w'
    go_simp
    with_reducible rfl
  rotate_left
  · simp only [Act.put, List.setIfInBounds_toArray, List.set_cons_zero, List.set_cons_succ, i64_w, i32_w]
    rfl
  refine take_ (i := 2) (N := some 36) (v := ?_) (a' := ?_) #[true, true, true, false, true, false, false, false, false, false] rfl rfl (by kernel_rfl) (fun _ _ _ h => h) (Or.inl ⟨by rfl, ?_⟩) hHeld ?_ ?_
  rotate_left
  · rintro w' ⟨s0, s1⟩
    go_simp
    with_reducible rfl
  rotate_left
  · simp only [Act.put, List.setIfInBounds_toArray, List.set_cons_zero, List.set_cons_succ, i64_w, i32_w]
    rfl
  refine take_ (i := 5) (N := some 39) (v := ?_) (a' := ?_) #[true, true, true, false, true, true, false, false, false, false] rfl rfl (by kernel_rfl) (fun _ _ _ h => h) (Or.inl ⟨by rfl, ?_⟩) hHeld ?_ ?_
  rotate_left
  · rintro w' ⟨s0, s1⟩
    go_simp
    with_reducible rfl
  rotate_left
  · simp only [Act.put, List.setIfInBounds_toArray, List.set_cons_zero, List.set_cons_succ, i64_w, i32_w]
    rfl
  refine one_ (i := 3) (N := some 37) #[true, true, true, true, true, true, false, false, false, false] rfl rfl (by kernel_rfl) (by decide) (fun K hK => ?_)
  refine goes_ Tryd.func76 (by kernel_rfl) rfl #[.string ⟨#[51, 56]⟩, .int .i64 z] (by rfl) rfl rfl (by simp only [List.map_toArray, List.map_cons, List.map_nil]; rfl) ?_
  with_reducible refine (HP4.out _).mono ?_
  rintro e w4 ⟨rfl, hb4⟩
  refine ⟨_, rfl, ?_⟩
  have B4 := Aside0.mk (show Below W.heap.size W w4 from (by first | exact B3.out.trans (hb4.mono B3.out.size) | exact (Below.drew B3.out).trans (hb4.mono B3.out.size)))
  have HL4 : Aside0 (W.heap.size + 1 < w4.heap.size) := ⟨Nat.lt_of_lt_of_le HL3.out hb4.size⟩
  refine hK.out _ _ ⟨(fun i => (hb4.cell (p := ⟨W.heap.size, i, none⟩) (Nat.lt_of_le_of_lt (by first | exact Nat.le_refl _ | exact Nat.le_succ _) HL3.out)).trans (hHeld.1 i)), (fun i => (hb4.cell (p := ⟨W.heap.size + 1, i, none⟩) (Nat.lt_of_le_of_lt (by first | exact Nat.le_refl _ | exact Nat.le_succ _) HL3.out)).trans (hHeld.2 i))⟩ (fun hHeld => ?_)
  clear hK K
  refine norm_ (a' := ?_) ?_ ?_
  rotate_left
  · show Act.put _ (some 37) _ = _
    simp only [Act.put, List.setIfInBounds_toArray, List.set_cons_zero, List.set_cons_succ, i64_w, i32_w]
    rfl
  refine one_ (i := 6) (N := some 40) #[true, true, true, true, true, true, true, false, false, false] rfl rfl (by kernel_rfl) (by decide) (fun K hK => ?_)
  refine goes_ Tryd.func76 (by kernel_rfl) rfl #[.string ⟨#[52, 52]⟩, .int .i64 p] (by rfl) rfl rfl (by simp only [List.map_toArray, List.map_cons, List.map_nil]; rfl) ?_
  with_reducible refine (HP5.out _).mono ?_
  rintro e w5 ⟨rfl, hb5⟩
  refine ⟨_, rfl, ?_⟩
  have B5 := Aside0.mk (show Below W.heap.size W w5 from (by first | exact B4.out.trans (hb5.mono B4.out.size) | exact (Below.drew B4.out).trans (hb5.mono B4.out.size)))
  have HL5 : Aside0 (W.heap.size + 1 < w5.heap.size) := ⟨Nat.lt_of_lt_of_le HL4.out hb5.size⟩
  refine hK.out _ _ ⟨(fun i => (hb5.cell (p := ⟨W.heap.size, i, none⟩) (Nat.lt_of_le_of_lt (by first | exact Nat.le_refl _ | exact Nat.le_succ _) HL4.out)).trans (hHeld.1 i)), (fun i => (hb5.cell (p := ⟨W.heap.size + 1, i, none⟩) (Nat.lt_of_le_of_lt (by first | exact Nat.le_refl _ | exact Nat.le_succ _) HL4.out)).trans (hHeld.2 i))⟩ (fun hHeld => ?_)
  clear hK K
  refine norm_ (a' := ?_) ?_ ?_
  rotate_left
  · show Act.put _ (some 40) _ = _
    simp only [Act.put, List.setIfInBounds_toArray, List.set_cons_zero, List.set_cons_succ, i64_w, i32_w]
    rfl
  refine pure_ (i := 7) (N := some 41) (v := ?_) (a' := ?_) #[true, true, true, true, true, true, true, true, false, false] rfl rfl (by kernel_rfl) (fun _ _ _ h => h) (Or.inl ⟨by rfl, ?_⟩) ?_ ?_
  rotate_left
  · intro w'
    go_simp
    with_reducible rfl
  rotate_left
  · simp only [Act.put, List.setIfInBounds_toArray, List.set_cons_zero, List.set_cons_succ, i64_w, i32_w]
    rfl
  refine pure_ (i := 8) (N := some 42) (v := ?_) (a' := ?_) #[true, true, true, true, true, true, true, true, true, false] rfl rfl (by kernel_rfl) (fun _ _ _ h => h) (Or.inl ⟨by rfl, ?_⟩) ?_ ?_
  rotate_left
  · intro w'
    go_simp
    with_reducible rfl
  rotate_left
  · simp only [Act.put, List.setIfInBounds_toArray, List.set_cons_zero, List.set_cons_succ, i64_w, i32_w]
    rfl
  refine pure_ (i := 9) (N := some 4) (v := ?_) (a' := ?_) #[true, true, true, true, true, true, true, true, true, true] rfl rfl (by kernel_rfl) (fun _ _ _ h => h) (Or.inl ⟨by rfl, ?_⟩) ?_ ?_
  rotate_left
  · intro w'
    go_simp
    with_reducible rfl
  rotate_left
  · simp only [Act.put, List.setIfInBounds_toArray, List.set_cons_zero, List.set_cons_succ, i64_w, i32_w]
    rfl
  refine done_ (by kernel_rfl) ?_
  have K5 : Aside0 (w5.heap[W.heap.size]? = some (.cells #[.int .i64 3, .int .i64 q, .string nm, .string ⟨#[]⟩, .int .i64 0, .int .i64 z, .int .i64 p] 45 (0, 0))) := ⟨(blk_below (w := w4) (blk_below (w := w3.drew) K3.out ⟨hb4.os, hb4.tape, hb4.output, hb4.size, hb4.block⟩) ⟨hb5.os, hb5.tape, hb5.output, hb5.size, hb5.block⟩)⟩
  have A5 : Aside0 (w5.heap[W.heap.size + 1]? = some (.cells #[.string ⟨#[]⟩, .string ⟨#[68]⟩, .string ⟨#[70]⟩, .string ⟨#[71]⟩] 116 (0, 0))) := ⟨(blk_below (w := w4) (blk_below (w := w3.drew) A3.out ⟨hb4.os, hb4.tape, hb4.output, hb4.size, hb4.block⟩) ⟨hb5.os, hb5.tape, hb5.output, hb5.size, hb5.block⟩)⟩
  (try clear hc)
  have hc := fun i => blk_cell K5.out i
  (try clear hca)
  have hca := fun i => blk_cell A5.out i
  clear hb4 hb5
  go_wp2
  go_ret
  exact ⟨by rw [← ES.out]; rfl, B5.out⟩
theorem ordform_walk (a : OrdV) (h : rightO a = true) (W : World) : Calls Tryd.prog 28 #[.agg #[.int .i64 a.f0, .int .i64 a.f1, .string a.f2, .string a.f3, .int .i64 a.f4, .int .i64 a.f5, .int .i64 a.f6]] W fun e w' => e = .returned (.string (encO a).1) ∧ Below W.heap.size W w' := by
  rw [encO_right a h]
  have hs := rightO_sizes a h
  obtain ⟨f0, f1, f2, f3, f4, f5, f6⟩ := a
  obtain ⟨_, hq, hi, hk⟩ := (rightO_iff _).1 h
  simp only at hq hi hk hs
  rcases hk with ⟨rfl, hy, hd, hz, hp⟩ | ⟨rfl, rfl, rfl, rfl, rfl⟩ | ⟨rfl, rfl, rfl, hz, hp⟩
  · exact ordform_1 f1 f4 f5 f6 f2 f3 hq hd hz hp (by omega) (by omega) W
  · exact ordform_2 f1 f2 hq (by omega) W
  · exact ordform_3 f1 f5 f6 f2 hq hz hp (by omega) W
def spigotref14_OrderForm.f (a0_0 a0_1 : Int) (a0_2 a0_3 : ByteArray) (a0_4 a0_5 a0_6 : Int) : Option ByteArray := if rightO ⟨a0_0, a0_1, a0_2, a0_3, a0_4, a0_5, a0_6⟩ = true then some (encO ⟨a0_0, a0_1, a0_2, a0_3, a0_4, a0_5, a0_6⟩).1 else none
theorem spigotref14_OrderForm.calls (a0_0 a0_1 : Int) (a0_2 a0_3 : ByteArray) (a0_4 a0_5 a0_6 : Int) (r : ByteArray) (w : World) (h : spigotref14_OrderForm.f a0_0 a0_1 a0_2 a0_3 a0_4 a0_5 a0_6 = some r) :
    Calls Tryd.prog 28 #[.agg #[.int .i64 a0_0, .int .i64 a0_1, .string a0_2, .string a0_3, .int .i64 a0_4, .int .i64 a0_5, .int .i64 a0_6]] w fun e w' => e = .returned (.string r) ∧ Below w.heap.size w w' := by
  unfold spigotref14_OrderForm.f at h
  by_cases c : rightO ⟨a0_0, a0_1, a0_2, a0_3, a0_4, a0_5, a0_6⟩ = true
  · rw [if_pos c] at h
    obtain rfl := Option.some.inj h
    exact ordform_walk ⟨a0_0, a0_1, a0_2, a0_3, a0_4, a0_5, a0_6⟩ c w
  · rw [if_neg c] at h; cases h
end Go.Proofs.YtgfigkfcmkdjdaaDoor.B
end
