/- The functions that the law reaches, as plain Lean functions, and their contracts: texts merged. -/
import Derived.Laws.StructEq
import Derived.Test.YtgfigkfcmkdjdaaDoorzPostReplies3
import Derived.Test.YtgfigkfcmkdjdaaDoorzPostReplies0
import Derived.Test.YtgfigkfcmkdjdaaDoorzPostReplies1
import Derived.Test.YtgfigkfcmkdjdaaDoorzPostReplies2
import Derived.Test.YtgfigkfcmkdjdaaDoorzPostReplies4
import Derived.Test.YtgfigkfcmkdjdaaDoorzPostReplies5
import Derived.Test.YtgfigkfcmkdjdaaDoorzPostReplies6
import Derived.Test.YtgfigkfcmkdjdaaDoorzPostReplies7
import Derived.Test.YtgfigkfcmkdjdaaDoorzPostReplies8
import Derived.Test.YtgfigkfcmkdjdaaDoorzPostReplies9
import Derived.Test.YtgfigkfcmkdjdaaDoorzPostReplies10
import Derived.Test.YtgfigkfcmkdjdaaDoorzPostReplies11
import Derived.Test.YtgfigkfcmkdjdaaDoorzPostReplies12
import Derived.Test.YtgfigkfcmkdjdaaDoorzPostReplies13
import Derived.Test.YtgfigkfcmkdjdaaDoorzPostReplies14
import Derived.Test.YtgfigkfcmkdjdaaDoorzPostReplies15
import Derived.Test.YtgfigkfcmkdjdaaDoorzPostReplies16
import Derived.Test.YtgfigkfcmkdjdaaDoorzPostReplies17
import Derived.Test.YtgfigkfcmkdjdaaDoorzPostReplies20
section
namespace Go.Proofs.YtgfigkfcmkdjdaaDoor.B
open Go.RowKit Go.Proofs.YtgfigkfcmkdjdaaDoorW.PrintWords Go.Proofs.YtgfigkfcmkdjdaaDoorW.PrintLast Go.Proofs.YtgfigkfcmkdjdaaDoorW.PrintMore
attribute [local go_sem] max2_int min2_int max_two min_two max_three min_three max_four min_four   -- for this text's walks alone
set_option linter.unusedVariables false
set_option linter.unusedSimpArgs false
set_option maxRecDepth 100000 in
set_option maxHeartbeats 8000000 in
theorem repform_1 (q : Int) (nm : ByteArray) (hq : 1 ≤ q ∧ q ≤ 1099511627776) (hi : nm.size ≤ 200) (x : ByteArray) (hx : x.size ≤ 200) (W : World) : Calls Tryd.prog 37 #[.agg #[.int .i64 1, .int .i64 q, .string nm, .string x, .int .i64 0, .int .i64 0, .string ⟨#[]⟩]] W fun e w' => e = .returned (.string ⟨((((repF ⟨1, q, nm, x, 0, 0, ⟨#[]⟩⟩).map pairF).map fieldL).flatten).toArray⟩) ∧ Below W.heap.size W w' := by
  obtain ⟨p1, e1, z1, l1⟩ := putF_ok ⟨#[51, 53]⟩ ⟨#[56]⟩ (by decide) (by decide)
  obtain ⟨p2, e2, z2, l2⟩ := numF_ok ⟨#[51, 52]⟩ q (by decide) (by omega) (by omega)
  obtain ⟨p3, e3, z3, l3⟩ := putF_ok ⟨#[49, 49]⟩ nm (by decide) (by omega)
  obtain ⟨p4, e4, z4, l4⟩ := putF_ok ⟨#[49, 55]⟩ x (by decide) (by omega)
  obtain ⟨p5, e5, z5, l5⟩ := putF_ok ⟨#[49, 53, 48]⟩ ⟨#[48]⟩ (by decide) (by decide)
  have es : (((p1 ++ p2) ++ p3) ++ (p4 ++ p5)) = ⟨((((repF ⟨1, q, nm, x, 0, 0, ⟨#[]⟩⟩).map pairF).map fieldL).flatten).toArray⟩ := by
    apply ba_ext
    rw [show repF ⟨1, q, nm, x, 0, 0, ⟨#[]⟩⟩ = [⟨35, ⟨#[56]⟩⟩, ⟨34, digitsB q⟩, ⟨11, nm⟩, ⟨17, x⟩, ⟨150, ⟨#[48]⟩⟩] from rfl]
    simp only [List.map_cons, List.map_nil, pairF, List.flatten_cons, List.flatten_nil, gl35, gl34, gl11, gl17, gl150, ByteArray.toList_data_append, l1, l2, l3, l4, l5]
    simp
  have HP1 : Aside0 (∀ X, Calls Tryd.prog 75 #[.string ⟨#[51, 53]⟩, .string ⟨#[56]⟩] X fun e w' => e = .returned (.string p1) ∧ Drawn0 X w') := ⟨fun X => spigotref12_Put.calls _ _ _ X e1⟩
  have HP2 : Aside0 (∀ X, Calls Tryd.prog 76 #[.string ⟨#[51, 52]⟩, .int .i64 q] X fun e w' => e = .returned (.string p2) ∧ Below X.heap.size X w') := ⟨fun X => spigotref12_Number.calls _ _ _ X e2⟩
  have HP3 : Aside0 (∀ X, Calls Tryd.prog 75 #[.string ⟨#[49, 49]⟩, .string nm] X fun e w' => e = .returned (.string p3) ∧ Drawn0 X w') := ⟨fun X => spigotref12_Put.calls _ _ _ X e3⟩
  have HP4 : Aside0 (∀ X, Calls Tryd.prog 75 #[.string ⟨#[49, 55]⟩, .string x] X fun e w' => e = .returned (.string p4) ∧ Drawn0 X w') := ⟨fun X => spigotref12_Put.calls _ _ _ X e4⟩
  have HP5 : Aside0 (∀ X, Calls Tryd.prog 75 #[.string ⟨#[49, 53, 48]⟩, .string ⟨#[48]⟩] X fun e w' => e = .returned (.string p5) ∧ Drawn0 X w') := ⟨fun X => spigotref12_Put.calls _ _ _ X e5⟩
  have ES := Aside0.mk es
  have HWd : Aside0 (∀ X, Calls Tryd.prog 82 #[.int .i64 1] X fun e w' => e = .returned (.string ⟨#[48]⟩) ∧ Below X.heap.size X w') := ⟨fun X => ref14_word_walk 1 (by decide) X⟩
  have s1 : (9223372036854775807 < p1.size + p2.size) = False := eq_false (Nat.not_lt.2 (by (try simp only [ByteArray.size_append]); omega))
  have s2 : (9223372036854775807 < p1.size + p2.size + p3.size) = False := eq_false (Nat.not_lt.2 (by (try simp only [ByteArray.size_append]); omega))
  have s3 : (9223372036854775807 < ((p1 ++ p2)).size + (p3).size) = False := eq_false (Nat.not_lt.2 (by (try simp only [ByteArray.size_append]); omega))
  have s4 : (9223372036854775807 < p4.size + p5.size) = False := eq_false (Nat.not_lt.2 (by (try simp only [ByteArray.size_append]); omega))
  have s5 : (9223372036854775807 < (((p1 ++ p2) ++ p3)).size + ((p4 ++ p5)).size) = False := eq_false (Nat.not_lt.2 (by (try simp only [ByteArray.size_append]); omega))
  have s6 : (9223372036854775807 < p1.size + p2.size + p3.size + (p4.size + p5.size)) = False := eq_false (Nat.not_lt.2 (by (try simp only [ByteArray.size_append]); omega))
  clear es e1 z1 l1 e2 z2 l2 e3 z3 l3 e4 z4 l4 e5 z5 l5
  have HS1 : (W.alloc (.cells #[.int .i64 1, .int .i64 q, .string nm, .string x, .int .i64 0, .int .i64 0, .string ⟨#[]⟩] 57)).heap.size = W.heap.size + 1 := World.size_alloc _ _
  have K0 := Aside0.mk (blk_new W (.cells #[.int .i64 1, .int .i64 q, .string nm, .string x, .int .i64 0, .int .i64 0, .string ⟨#[]⟩] 57))
  have B0 : Aside0 (Below W.heap.size W (W.alloc (.cells #[.int .i64 1, .int .i64 q, .string nm, .string x, .int .i64 0, .int .i64 0, .string ⟨#[]⟩] 57))) := ⟨(Below.refl _ _).alloc (Nat.le_refl _) _⟩
  have HL0 : Aside0 (W.heap.size + 0 < (W.alloc (.cells #[.int .i64 1, .int .i64 q, .string nm, .string x, .int .i64 0, .int .i64 0, .string ⟨#[]⟩] 57)).heap.size) := ⟨by rw [HS1]; omega⟩
  clear HS1
  go_enter Tryd.func37, Tryd.ntmps37
  go_wp2
  refine start_ (n := 10) (S := fun w' => (∀ i, w'.cell? ⟨W.heap.size, i, none⟩ = (#[.int .i64 1, .int .i64 q, .string nm, .string x, .int .i64 0, .int .i64 0, .string ⟨#[]⟩] : Array Value)[i]?)) (ds := []) #[false, false, false, false, false, false, false, false, false, false] (by kernel_rfl) rfl rfl ((fun i => blk_cell (w := (W.alloc (.cells #[.int .i64 1, .int .i64 q, .string nm, .string x, .int .i64 0, .int .i64 0, .string ⟨#[]⟩] 57)).drew) K0.out i)) (fun hHeld => ?_)
  refine pure_ (i := 1) (N := some 17) (v := ?_) (a' := ?_) #[false, true, false, false, false, false, false, false, false, false] rfl rfl (by kernel_rfl) (fun _ _ _ h => h) (Or.inl ⟨by rfl, ?_⟩) ?_ ?_
  rotate_left
  · intro w'
    go_simp
    with_reducible rfl
  rotate_left
  · simp only [Act.put, List.setIfInBounds_toArray, List.set_cons_zero, List.set_cons_succ, i64_w, i32_w]
    rfl
  refine pure_ (i := 5) (N := some 21) (v := ?_) (a' := ?_) #[false, true, false, false, false, true, false, false, false, false] rfl rfl (by kernel_rfl) (fun _ _ _ h => h) (Or.inl ⟨by rfl, ?_⟩) ?_ ?_
  rotate_left
  · intro w'
    go_simp
    with_reducible rfl
  rotate_left
  · simp only [Act.put, List.setIfInBounds_toArray, List.set_cons_zero, List.set_cons_succ, i64_w, i32_w]
    rfl
  refine take_ (i := 2) (N := some 18) (v := ?_) (a' := ?_) #[false, true, true, false, false, true, false, false, false, false] rfl rfl (by kernel_rfl) (fun _ _ _ h => h) (Or.inl ⟨by rfl, ?_⟩) hHeld ?_ ?_
  rotate_left
  · intro w' s0
    go_simp
    with_reducible rfl
  rotate_left
  · simp only [Act.put, List.setIfInBounds_toArray, List.set_cons_zero, List.set_cons_succ, i64_w, i32_w]
    rfl
  refine take_ (i := 6) (N := some 22) (v := ?_) (a' := ?_) #[false, true, true, false, false, true, true, false, false, false] rfl rfl (by kernel_rfl) (fun _ _ _ h => h) (Or.inl ⟨by rfl, ?_⟩) hHeld ?_ ?_
  rotate_left
  · intro w' s0
    go_simp
    with_reducible rfl
  rotate_left
  · simp only [Act.put, List.setIfInBounds_toArray, List.set_cons_zero, List.set_cons_succ, i64_w, i32_w]
    rfl
  refine one_ (i := 0) (N := some 16) #[true, true, true, false, false, true, true, false, false, false] rfl rfl (by kernel_rfl) (by decide) (fun K hK => ?_)
  refine goes_ Tryd.func75 (by kernel_rfl) rfl #[.string ⟨#[51, 53]⟩, .string ⟨#[56]⟩] (by rfl) rfl rfl (by simp only [List.map_toArray, List.map_cons, List.map_nil]; rfl) ?_
  with_reducible refine (HP1.out _).mono ?_
  rintro e w1 ⟨rfl, hd1⟩
  refine ⟨_, rfl, ?_⟩
  have hb1 := hd1.below
  have B1 := Aside0.mk (show Below W.heap.size W w1 from (by first | exact B0.out.trans (hb1.mono B0.out.size) | exact (Below.drew B0.out).trans (hb1.mono B0.out.size)))
  have HL1 : Aside0 (W.heap.size + 0 < w1.heap.size) := ⟨Nat.lt_of_lt_of_le HL0.out hb1.size⟩
  refine hK.out _ _ ((fun i => (hb1.cell (p := ⟨W.heap.size, i, none⟩) (Nat.lt_of_le_of_lt (by first | exact Nat.le_refl _ | exact Nat.le_succ _) HL0.out)).trans (hHeld i))) (fun hHeld => ?_)
  clear hK K
  refine norm_ (a' := ?_) ?_ ?_
  rotate_left
  · show Act.put _ (some 16) _ = _
    simp only [Act.put, List.setIfInBounds_toArray, List.set_cons_zero, List.set_cons_succ, i64_w, i32_w]
    rfl
  refine one_ (i := 3) (N := some 19) #[true, true, true, true, false, true, true, false, false, false] rfl rfl (by kernel_rfl) (by decide) (fun K hK => ?_)
  refine goes_ Tryd.func76 (by kernel_rfl) rfl #[.string ⟨#[51, 52]⟩, .int .i64 q] (by rfl) rfl rfl (by simp only [List.map_toArray, List.map_cons, List.map_nil]; rfl) ?_
  with_reducible refine (HP2.out _).mono ?_
  rintro e w2 ⟨rfl, hb2⟩
  refine ⟨_, rfl, ?_⟩
  have B2 := Aside0.mk (show Below W.heap.size W w2 from (by first | exact B1.out.trans (hb2.mono B1.out.size) | exact (Below.drew B1.out).trans (hb2.mono B1.out.size)))
  have HL2 : Aside0 (W.heap.size + 0 < w2.heap.size) := ⟨Nat.lt_of_lt_of_le HL1.out hb2.size⟩
  refine hK.out _ _ ((fun i => (hb2.cell (p := ⟨W.heap.size, i, none⟩) (Nat.lt_of_le_of_lt (by first | exact Nat.le_refl _ | exact Nat.le_succ _) HL1.out)).trans (hHeld i))) (fun hHeld => ?_)
  clear hK K
  refine norm_ (a' := ?_) ?_ ?_
  rotate_left
  · show Act.put _ (some 19) _ = _
    simp only [Act.put, List.setIfInBounds_toArray, List.set_cons_zero, List.set_cons_succ, i64_w, i32_w]
    rfl
  refine pure_ (i := 4) (N := some 20) (v := ?_) (a' := ?_) #[true, true, true, true, true, true, true, false, false, false] rfl rfl (by kernel_rfl) (fun _ _ _ h => h) (Or.inl ⟨by rfl, ?_⟩) ?_ ?_
  rotate_left
  · intro w'
    go_simp
    with_reducible rfl
  rotate_left
  · simp only [Act.put, List.setIfInBounds_toArray, List.set_cons_zero, List.set_cons_succ, i64_w, i32_w]
    rfl
  refine one_ (i := 7) (N := some 23) #[true, true, true, true, true, true, true, true, false, false] rfl rfl (by kernel_rfl) (by decide) (fun K hK => ?_)
  refine goes_ Tryd.func75 (by kernel_rfl) rfl #[.string ⟨#[49, 49]⟩, .string nm] (by rfl) rfl rfl (by simp only [List.map_toArray, List.map_cons, List.map_nil]; rfl) ?_
  with_reducible refine (HP3.out _).mono ?_
  rintro e w3 ⟨rfl, hd3⟩
  refine ⟨_, rfl, ?_⟩
  have hb3 := hd3.below
  have B3 := Aside0.mk (show Below W.heap.size W w3 from (by first | exact B2.out.trans (hb3.mono B2.out.size) | exact (Below.drew B2.out).trans (hb3.mono B2.out.size)))
  have HL3 : Aside0 (W.heap.size + 0 < w3.heap.size) := ⟨Nat.lt_of_lt_of_le HL2.out hb3.size⟩
  refine hK.out _ _ ((fun i => (hb3.cell (p := ⟨W.heap.size, i, none⟩) (Nat.lt_of_le_of_lt (by first | exact Nat.le_refl _ | exact Nat.le_succ _) HL2.out)).trans (hHeld i))) (fun hHeld => ?_)
  clear hK K
  refine norm_ (a' := ?_) ?_ ?_
  rotate_left
  · show Act.put _ (some 23) _ = _
    simp only [Act.put, List.setIfInBounds_toArray, List.set_cons_zero, List.set_cons_succ, i64_w, i32_w]
    rfl
  refine pure_ (i := 8) (N := some 24) (v := ?_) (a' := ?_) #[true, true, true, true, true, true, true, true, true, false] rfl rfl (by kernel_rfl) (fun _ _ _ h => h) (Or.inl ⟨by rfl, ?_⟩) ?_ ?_
  rotate_left
  · intro w'
    go_simp
    with_reducible rfl
  rotate_left
  · simp only [Act.put, List.setIfInBounds_toArray, List.set_cons_zero, List.set_cons_succ, i64_w, i32_w]
    rfl
  refine pure_ (i := 9) (N := some 3) (v := ?_) (a' := ?_) #[true, true, true, true, true, true, true, true, true, true] rfl rfl (by kernel_rfl) (fun _ _ _ h => h) (Or.inl ⟨by rfl, ?_⟩) ?_ ?_
  rotate_left
  · intro w'
    go_simp
    with_reducible rfl
  rotate_left
  · simp only [Act.put, List.setIfInBounds_toArray, List.set_cons_zero, List.set_cons_succ, i64_w, i32_w]
    rfl
  refine done_ (by kernel_rfl) ?_
  have K3 : Aside0 (w3.heap[W.heap.size]? = some (.cells #[.int .i64 1, .int .i64 q, .string nm, .string x, .int .i64 0, .int .i64 0, .string ⟨#[]⟩] 57 (0, 0))) := ⟨(blk_below (w := w2) (blk_below (w := w1) (blk_below (w := (W.alloc (.cells #[.int .i64 1, .int .i64 q, .string nm, .string x, .int .i64 0, .int .i64 0, .string ⟨#[]⟩] 57)).drew) K0.out ⟨hb1.os, hb1.tape, hb1.output, hb1.size, hb1.block⟩) ⟨hb2.os, hb2.tape, hb2.output, hb2.size, hb2.block⟩) ⟨hb3.os, hb3.tape, hb3.output, hb3.size, hb3.block⟩)⟩
  (try clear hc)
  have hc := fun i => blk_cell K3.out i
  clear hb1 hb2 hb3
  go_wp2
  refine start_ (n := 11) (S := fun w' => (∀ i, w'.cell? ⟨W.heap.size, i, none⟩ = (#[.int .i64 1, .int .i64 q, .string nm, .string x, .int .i64 0, .int .i64 0, .string ⟨#[]⟩] : Array Value)[i]?)) (ds := []) #[false, false, false, false, false, false, false, false, false, false, false] (by kernel_rfl) rfl rfl ((fun i => blk_cell (w := w3.drew) K3.out i)) (fun hHeld => ?_)
  refine pure_ (i := 0) (N := some 25) (v := ?_) (a' := ?_) #[true, false, false, false, false, false, false, false, false, false, false] rfl rfl (by kernel_rfl) (fun _ _ _ h => h) (Or.inl ⟨by rfl, ?_⟩) ?_ ?_
  rotate_left
  · intro w'
    go_simp
    with_reducible rfl
  rotate_left
  · simp only [Act.put, List.setIfInBounds_toArray, List.set_cons_zero, List.set_cons_succ, i64_w, i32_w]
    rfl
  refine pure_ (i := 1) (N := some 26) (v := ?_) (a' := ?_) #[true, true, false, false, false, false, false, false, false, false, false] rfl rfl (by kernel_rfl) (fun _ _ _ h => h) (Or.inl ⟨by rfl, ?_⟩) ?_ ?_
  rotate_left
  · intro w'
    go_simp
    with_reducible rfl
  rotate_left
  · simp only [Act.put, List.setIfInBounds_toArray, List.set_cons_zero, List.set_cons_succ, i64_w, i32_w]
    rfl
  refine pure_ (i := 4) (N := some 29) (v := ?_) (a' := ?_) #[true, true, false, false, true, false, false, false, false, false, false] rfl rfl (by kernel_rfl) (fun _ _ _ h => h) (Or.inl ⟨by rfl, ?_⟩) ?_ ?_
  rotate_left
  · intro w'
    go_simp
    with_reducible rfl
  rotate_left
  · simp only [Act.put, List.setIfInBounds_toArray, List.set_cons_zero, List.set_cons_succ, i64_w, i32_w]
    rfl
  refine take_ (i := 2) (N := some 27) (v := ?_) (a' := ?_) #[true, true, true, false, true, false, false, false, false, false, false] rfl rfl (by kernel_rfl) (fun _ _ _ h => h) (Or.inl ⟨by rfl, ?_⟩) hHeld ?_ ?_
  rotate_left
  · intro w' s0
    go_simp
    with_reducible rfl
  rotate_left
  · simp only [Act.put, List.setIfInBounds_toArray, List.set_cons_zero, List.set_cons_succ, i64_w, i32_w]
    rfl
  refine take_ (i := 5) (N := some 30) (v := ?_) (a' := ?_) #[true, true, true, false, true, true, false, false, false, false, false] rfl rfl (by kernel_rfl) (fun _ _ _ h => h) (Or.inl ⟨by rfl, ?_⟩) hHeld ?_ ?_
  rotate_left
  · intro w' s0
    go_simp
    with_reducible rfl
  rotate_left
  · simp only [Act.put, List.setIfInBounds_toArray, List.set_cons_zero, List.set_cons_succ, i64_w, i32_w]
    rfl
  refine one_ (i := 3) (N := some 28) #[true, true, true, true, true, true, false, false, false, false, false] rfl rfl (by kernel_rfl) (by decide) (fun K hK => ?_)
  refine goes_ Tryd.func75 (by kernel_rfl) rfl #[.string ⟨#[49, 55]⟩, .string x] (by rfl) rfl rfl (by simp only [List.map_toArray, List.map_cons, List.map_nil]; rfl) ?_
  with_reducible refine (HP4.out _).mono ?_
  rintro e w4 ⟨rfl, hd4⟩
  refine ⟨_, rfl, ?_⟩
  have hb4 := hd4.below
  have B4 := Aside0.mk (show Below W.heap.size W w4 from (by first | exact B3.out.trans (hb4.mono B3.out.size) | exact (Below.drew B3.out).trans (hb4.mono B3.out.size)))
  have HL4 : Aside0 (W.heap.size + 0 < w4.heap.size) := ⟨Nat.lt_of_lt_of_le HL3.out hb4.size⟩
  refine hK.out _ _ ((fun i => (hb4.cell (p := ⟨W.heap.size, i, none⟩) (Nat.lt_of_le_of_lt (by first | exact Nat.le_refl _ | exact Nat.le_succ _) HL3.out)).trans (hHeld i))) (fun hHeld => ?_)
  clear hK K
  refine norm_ (a' := ?_) ?_ ?_
  rotate_left
  · show Act.put _ (some 28) _ = _
    simp only [Act.put, List.setIfInBounds_toArray, List.set_cons_zero, List.set_cons_succ, i64_w, i32_w]
    rfl
  refine one_ (i := 6) (N := some 31) #[true, true, true, true, true, true, true, false, false, false, false] rfl rfl (by kernel_rfl) (by decide) (fun K hK => ?_)
  refine goes_ Tryd.func82 (by kernel_rfl) rfl #[.int .i64 1] (by rfl) rfl rfl (by simp only [List.map_toArray, List.map_cons, List.map_nil]; rfl) ?_
  with_reducible refine (HWd.out _).mono ?_
  rintro e w5 ⟨rfl, hb5⟩
  refine ⟨_, rfl, ?_⟩
  have B5 := Aside0.mk (show Below W.heap.size W w5 from (by first | exact B4.out.trans (hb5.mono B4.out.size) | exact (Below.drew B4.out).trans (hb5.mono B4.out.size)))
  have HL5 : Aside0 (W.heap.size + 0 < w5.heap.size) := ⟨Nat.lt_of_lt_of_le HL4.out hb5.size⟩
  refine hK.out _ _ ((fun i => (hb5.cell (p := ⟨W.heap.size, i, none⟩) (Nat.lt_of_le_of_lt (by first | exact Nat.le_refl _ | exact Nat.le_succ _) HL4.out)).trans (hHeld i))) (fun hHeld => ?_)
  clear hK K
  refine norm_ (a' := ?_) ?_ ?_
  rotate_left
  · show Act.put _ (some 31) _ = _
    simp only [Act.put, List.setIfInBounds_toArray, List.set_cons_zero, List.set_cons_succ, i64_w, i32_w]
    rfl
  refine one_ (i := 7) (N := some 32) #[true, true, true, true, true, true, true, true, false, false, false] rfl rfl (by kernel_rfl) (by decide) (fun K hK => ?_)
  refine goes_ Tryd.func75 (by kernel_rfl) rfl #[.string ⟨#[49, 53, 48]⟩, .string ⟨#[48]⟩] (by rfl) rfl rfl (by simp only [List.map_toArray, List.map_cons, List.map_nil]; rfl) ?_
  with_reducible refine (HP5.out _).mono ?_
  rintro e w6 ⟨rfl, hd6⟩
  refine ⟨_, rfl, ?_⟩
  have hb6 := hd6.below
  have B6 := Aside0.mk (show Below W.heap.size W w6 from (by first | exact B5.out.trans (hb6.mono B5.out.size) | exact (Below.drew B5.out).trans (hb6.mono B5.out.size)))
  have HL6 : Aside0 (W.heap.size + 0 < w6.heap.size) := ⟨Nat.lt_of_lt_of_le HL5.out hb6.size⟩
  refine hK.out _ _ ((fun i => (hb6.cell (p := ⟨W.heap.size, i, none⟩) (Nat.lt_of_le_of_lt (by first | exact Nat.le_refl _ | exact Nat.le_succ _) HL5.out)).trans (hHeld i))) (fun hHeld => ?_)
  clear hK K
  refine norm_ (a' := ?_) ?_ ?_
  rotate_left
  · show Act.put _ (some 32) _ = _
    simp only [Act.put, List.setIfInBounds_toArray, List.set_cons_zero, List.set_cons_succ, i64_w, i32_w]
    rfl
  refine pure_ (i := 8) (N := some 33) (v := ?_) (a' := ?_) #[true, true, true, true, true, true, true, true, true, false, false] rfl rfl (by kernel_rfl) (fun _ _ _ h => h) (Or.inl ⟨by rfl, ?_⟩) ?_ ?_
  rotate_left
  · intro w'
    go_simp
    with_reducible rfl
  rotate_left
  · simp only [Act.put, List.setIfInBounds_toArray, List.set_cons_zero, List.set_cons_succ, i64_w, i32_w]
    rfl
  refine pure_ (i := 9) (N := some 34) (v := ?_) (a' := ?_) #[true, true, true, true, true, true, true, true, true, true, false] rfl rfl (by kernel_rfl) (fun _ _ _ h => h) (Or.inl ⟨by rfl, ?_⟩) ?_ ?_
  rotate_left
  · intro w'
    go_simp
    with_reducible rfl
  rotate_left
  · simp only [Act.put, List.setIfInBounds_toArray, List.set_cons_zero, List.set_cons_succ, i64_w, i32_w]
    rfl
  refine pure_ (i := 10) (N := some 3) (v := ?_) (a' := ?_) #[true, true, true, true, true, true, true, true, true, true, true] rfl rfl (by kernel_rfl) (fun _ _ _ h => h) (Or.inl ⟨by rfl, ?_⟩) ?_ ?_
  rotate_left
  · intro w'
    go_simp
    with_reducible rfl
  rotate_left
  · simp only [Act.put, List.setIfInBounds_toArray, List.set_cons_zero, List.set_cons_succ, i64_w, i32_w]
    rfl
  refine done_ (by kernel_rfl) ?_
  have K6 : Aside0 (w6.heap[W.heap.size]? = some (.cells #[.int .i64 1, .int .i64 q, .string nm, .string x, .int .i64 0, .int .i64 0, .string ⟨#[]⟩] 57 (0, 0))) := ⟨(blk_below (w := w5) (blk_below (w := w4) (blk_below (w := w3.drew) K3.out ⟨hb4.os, hb4.tape, hb4.output, hb4.size, hb4.block⟩) ⟨hb5.os, hb5.tape, hb5.output, hb5.size, hb5.block⟩) ⟨hb6.os, hb6.tape, hb6.output, hb6.size, hb6.block⟩)⟩
  (try clear hc)
  have hc := fun i => blk_cell K6.out i
  clear hb4 hb5 hb6
  go_wp2
  go_ret
  exact ⟨by rw [← ES.out]; rfl, B6.out⟩
set_option maxRecDepth 100000 in
set_option maxHeartbeats 8000000 in
theorem repform_2 (q : Int) (nm : ByteArray) (hq : 1 ≤ q ∧ q ≤ 1099511627776) (hi : nm.size ≤ 200) (x : ByteArray) (hx : x.size ≤ 200) (W : World) : Calls Tryd.prog 37 #[.agg #[.int .i64 2, .int .i64 q, .string nm, .string x, .int .i64 0, .int .i64 0, .string ⟨#[]⟩]] W fun e w' => e = .returned (.string ⟨((((repF ⟨2, q, nm, x, 0, 0, ⟨#[]⟩⟩).map pairF).map fieldL).flatten).toArray⟩) ∧ Below W.heap.size W w' := by
  obtain ⟨p1, e1, z1, l1⟩ := putF_ok ⟨#[51, 53]⟩ ⟨#[56]⟩ (by decide) (by decide)
  obtain ⟨p2, e2, z2, l2⟩ := numF_ok ⟨#[51, 52]⟩ q (by decide) (by omega) (by omega)
  obtain ⟨p3, e3, z3, l3⟩ := putF_ok ⟨#[49, 49]⟩ nm (by decide) (by omega)
  obtain ⟨p4, e4, z4, l4⟩ := putF_ok ⟨#[49, 55]⟩ x (by decide) (by omega)
  obtain ⟨p5, e5, z5, l5⟩ := putF_ok ⟨#[49, 53, 48]⟩ ⟨#[52]⟩ (by decide) (by decide)
  have es : (((p1 ++ p2) ++ p3) ++ (p4 ++ p5)) = ⟨((((repF ⟨2, q, nm, x, 0, 0, ⟨#[]⟩⟩).map pairF).map fieldL).flatten).toArray⟩ := by
    apply ba_ext
    rw [show repF ⟨2, q, nm, x, 0, 0, ⟨#[]⟩⟩ = [⟨35, ⟨#[56]⟩⟩, ⟨34, digitsB q⟩, ⟨11, nm⟩, ⟨17, x⟩, ⟨150, ⟨#[52]⟩⟩] from rfl]
    simp only [List.map_cons, List.map_nil, pairF, List.flatten_cons, List.flatten_nil, gl35, gl34, gl11, gl17, gl150, ByteArray.toList_data_append, l1, l2, l3, l4, l5]
    simp
  have HP1 : Aside0 (∀ X, Calls Tryd.prog 75 #[.string ⟨#[51, 53]⟩, .string ⟨#[56]⟩] X fun e w' => e = .returned (.string p1) ∧ Drawn0 X w') := ⟨fun X => spigotref12_Put.calls _ _ _ X e1⟩
  have HP2 : Aside0 (∀ X, Calls Tryd.prog 76 #[.string ⟨#[51, 52]⟩, .int .i64 q] X fun e w' => e = .returned (.string p2) ∧ Below X.heap.size X w') := ⟨fun X => spigotref12_Number.calls _ _ _ X e2⟩
  have HP3 : Aside0 (∀ X, Calls Tryd.prog 75 #[.string ⟨#[49, 49]⟩, .string nm] X fun e w' => e = .returned (.string p3) ∧ Drawn0 X w') := ⟨fun X => spigotref12_Put.calls _ _ _ X e3⟩
  have HP4 : Aside0 (∀ X, Calls Tryd.prog 75 #[.string ⟨#[49, 55]⟩, .string x] X fun e w' => e = .returned (.string p4) ∧ Drawn0 X w') := ⟨fun X => spigotref12_Put.calls _ _ _ X e4⟩
  have HP5 : Aside0 (∀ X, Calls Tryd.prog 75 #[.string ⟨#[49, 53, 48]⟩, .string ⟨#[52]⟩] X fun e w' => e = .returned (.string p5) ∧ Drawn0 X w') := ⟨fun X => spigotref12_Put.calls _ _ _ X e5⟩
  have ES := Aside0.mk es
  have HWd : Aside0 (∀ X, Calls Tryd.prog 82 #[.int .i64 2] X fun e w' => e = .returned (.string ⟨#[52]⟩) ∧ Below X.heap.size X w') := ⟨fun X => ref14_word_walk 2 (by decide) X⟩
  have s1 : (9223372036854775807 < p1.size + p2.size) = False := eq_false (Nat.not_lt.2 (by (try simp only [ByteArray.size_append]); omega))
  have s2 : (9223372036854775807 < p1.size + p2.size + p3.size) = False := eq_false (Nat.not_lt.2 (by (try simp only [ByteArray.size_append]); omega))
  have s3 : (9223372036854775807 < ((p1 ++ p2)).size + (p3).size) = False := eq_false (Nat.not_lt.2 (by (try simp only [ByteArray.size_append]); omega))
  have s4 : (9223372036854775807 < p4.size + p5.size) = False := eq_false (Nat.not_lt.2 (by (try simp only [ByteArray.size_append]); omega))
  have s5 : (9223372036854775807 < (((p1 ++ p2) ++ p3)).size + ((p4 ++ p5)).size) = False := eq_false (Nat.not_lt.2 (by (try simp only [ByteArray.size_append]); omega))
  have s6 : (9223372036854775807 < p1.size + p2.size + p3.size + (p4.size + p5.size)) = False := eq_false (Nat.not_lt.2 (by (try simp only [ByteArray.size_append]); omega))
  clear es e1 z1 l1 e2 z2 l2 e3 z3 l3 e4 z4 l4 e5 z5 l5
  have HS1 : (W.alloc (.cells #[.int .i64 2, .int .i64 q, .string nm, .string x, .int .i64 0, .int .i64 0, .string ⟨#[]⟩] 57)).heap.size = W.heap.size + 1 := World.size_alloc _ _
  have K0 := Aside0.mk (blk_new W (.cells #[.int .i64 2, .int .i64 q, .string nm, .string x, .int .i64 0, .int .i64 0, .string ⟨#[]⟩] 57))
  have B0 : Aside0 (Below W.heap.size W (W.alloc (.cells #[.int .i64 2, .int .i64 q, .string nm, .string x, .int .i64 0, .int .i64 0, .string ⟨#[]⟩] 57))) := ⟨(Below.refl _ _).alloc (Nat.le_refl _) _⟩
  have HL0 : Aside0 (W.heap.size + 0 < (W.alloc (.cells #[.int .i64 2, .int .i64 q, .string nm, .string x, .int .i64 0, .int .i64 0, .string ⟨#[]⟩] 57)).heap.size) := ⟨by rw [HS1]; omega⟩
  clear HS1
  go_enter Tryd.func37, Tryd.ntmps37
  go_wp2
  refine start_ (n := 10) (S := fun w' => (∀ i, w'.cell? ⟨W.heap.size, i, none⟩ = (#[.int .i64 2, .int .i64 q, .string nm, .string x, .int .i64 0, .int .i64 0, .string ⟨#[]⟩] : Array Value)[i]?)) (ds := []) #[false, false, false, false, false, false, false, false, false, false] (by kernel_rfl) rfl rfl ((fun i => blk_cell (w := (W.alloc (.cells #[.int .i64 2, .int .i64 q, .string nm, .string x, .int .i64 0, .int .i64 0, .string ⟨#[]⟩] 57)).drew) K0.out i)) (fun hHeld => ?_)
  refine pure_ (i := 1) (N := some 17) (v := ?_) (a' := ?_) #[false, true, false, false, false, false, false, false, false, false] rfl rfl (by kernel_rfl) (fun _ _ _ h => h) (Or.inl ⟨by rfl, ?_⟩) ?_ ?_
  rotate_left
  · intro w'
    go_simp
    with_reducible rfl
  rotate_left
  · simp only [Act.put, List.setIfInBounds_toArray, List.set_cons_zero, List.set_cons_succ, i64_w, i32_w]
    rfl
  refine pure_ (i := 5) (N := some 21) (v := ?_) (a' := ?_) #[false, true, false, false, false, true, false, false, false, false] rfl rfl (by kernel_rfl) (fun _ _ _ h => h) (Or.inl ⟨by rfl, ?_⟩) ?_ ?_
  rotate_left
  · intro w'
    go_simp
    with_reducible rfl
  rotate_left
  · simp only [Act.put, List.setIfInBounds_toArray, List.set_cons_zero, List.set_cons_succ, i64_w, i32_w]
    rfl
  refine take_ (i := 2) (N := some 18) (v := ?_) (a' := ?_) #[false, true, true, false, false, true, false, false, false, false] rfl rfl (by kernel_rfl) (fun _ _ _ h => h) (Or.inl ⟨by rfl, ?_⟩) hHeld ?_ ?_
  rotate_left
  · intro w' s0
    go_simp
    with_reducible rfl
  rotate_left
  · simp only [Act.put, List.setIfInBounds_toArray, List.set_cons_zero, List.set_cons_succ, i64_w, i32_w]
    rfl
  refine take_ (i := 6) (N := some 22) (v := ?_) (a' := ?_) #[false, true, true, false, false, true, true, false, false, false] rfl rfl (by kernel_rfl) (fun _ _ _ h => h) (Or.inl ⟨by rfl, ?_⟩) hHeld ?_ ?_
  rotate_left
  · intro w' s0
    go_simp
    with_reducible rfl
  rotate_left
  · simp only [Act.put, List.setIfInBounds_toArray, List.set_cons_zero, List.set_cons_succ, i64_w, i32_w]
    rfl
  refine one_ (i := 0) (N := some 16) #[true, true, true, false, false, true, true, false, false, false] rfl rfl (by kernel_rfl) (by decide) (fun K hK => ?_)
  refine goes_ Tryd.func75 (by kernel_rfl) rfl #[.string ⟨#[51, 53]⟩, .string ⟨#[56]⟩] (by rfl) rfl rfl (by simp only [List.map_toArray, List.map_cons, List.map_nil]; rfl) ?_
  with_reducible refine (HP1.out _).mono ?_
  rintro e w1 ⟨rfl, hd1⟩
  refine ⟨_, rfl, ?_⟩
  have hb1 := hd1.below
  have B1 := Aside0.mk (show Below W.heap.size W w1 from (by first | exact B0.out.trans (hb1.mono B0.out.size) | exact (Below.drew B0.out).trans (hb1.mono B0.out.size)))
  have HL1 : Aside0 (W.heap.size + 0 < w1.heap.size) := ⟨Nat.lt_of_lt_of_le HL0.out hb1.size⟩
  refine hK.out _ _ ((fun i => (hb1.cell (p := ⟨W.heap.size, i, none⟩) (Nat.lt_of_le_of_lt (by first | exact Nat.le_refl _ | exact Nat.le_succ _) HL0.out)).trans (hHeld i))) (fun hHeld => ?_)
  clear hK K
  refine norm_ (a' := ?_) ?_ ?_
  rotate_left
  · show Act.put _ (some 16) _ = _
    simp only [Act.put, List.setIfInBounds_toArray, List.set_cons_zero, List.set_cons_succ, i64_w, i32_w]
    rfl
  refine one_ (i := 3) (N := some 19) #[true, true, true, true, false, true, true, false, false, false] rfl rfl (by kernel_rfl) (by decide) (fun K hK => ?_)
  refine goes_ Tryd.func76 (by kernel_rfl) rfl #[.string ⟨#[51, 52]⟩, .int .i64 q] (by rfl) rfl rfl (by simp only [List.map_toArray, List.map_cons, List.map_nil]; rfl) ?_
  with_reducible refine (HP2.out _).mono ?_
  rintro e w2 ⟨rfl, hb2⟩
  refine ⟨_, rfl, ?_⟩
  have B2 := Aside0.mk (show Below W.heap.size W w2 from (by first | exact B1.out.trans (hb2.mono B1.out.size) | exact (Below.drew B1.out).trans (hb2.mono B1.out.size)))
  have HL2 : Aside0 (W.heap.size + 0 < w2.heap.size) := ⟨Nat.lt_of_lt_of_le HL1.out hb2.size⟩
  refine hK.out _ _ ((fun i => (hb2.cell (p := ⟨W.heap.size, i, none⟩) (Nat.lt_of_le_of_lt (by first | exact Nat.le_refl _ | exact Nat.le_succ _) HL1.out)).trans (hHeld i))) (fun hHeld => ?_)
  clear hK K
  refine norm_ (a' := ?_) ?_ ?_
  rotate_left
  · show Act.put _ (some 19) _ = _
    simp only [Act.put, List.setIfInBounds_toArray, List.set_cons_zero, List.set_cons_succ, i64_w, i32_w]
    rfl
  refine pure_ (i := 4) (N := some 20) (v := ?_) (a' := ?_) #[true, true, true, true, true, true, true, false, false, false] rfl rfl (by kernel_rfl) (fun _ _ _ h => h) (Or.inl ⟨by rfl, ?_⟩) ?_ ?_
  rotate_left
  · intro w'
    go_simp
    with_reducible rfl
  rotate_left
  · simp only [Act.put, List.setIfInBounds_toArray, List.set_cons_zero, List.set_cons_succ, i64_w, i32_w]
    rfl
  refine one_ (i := 7) (N := some 23) #[true, true, true, true, true, true, true, true, false, false] rfl rfl (by kernel_rfl) (by decide) (fun K hK => ?_)
  refine goes_ Tryd.func75 (by kernel_rfl) rfl #[.string ⟨#[49, 49]⟩, .string nm] (by rfl) rfl rfl (by simp only [List.map_toArray, List.map_cons, List.map_nil]; rfl) ?_
  with_reducible refine (HP3.out _).mono ?_
  rintro e w3 ⟨rfl, hd3⟩
  refine ⟨_, rfl, ?_⟩
  have hb3 := hd3.below
  have B3 := Aside0.mk (show Below W.heap.size W w3 from (by first | exact B2.out.trans (hb3.mono B2.out.size) | exact (Below.drew B2.out).trans (hb3.mono B2.out.size)))
  have HL3 : Aside0 (W.heap.size + 0 < w3.heap.size) := ⟨Nat.lt_of_lt_of_le HL2.out hb3.size⟩
  refine hK.out _ _ ((fun i => (hb3.cell (p := ⟨W.heap.size, i, none⟩) (Nat.lt_of_le_of_lt (by first | exact Nat.le_refl _ | exact Nat.le_succ _) HL2.out)).trans (hHeld i))) (fun hHeld => ?_)
  clear hK K
  refine norm_ (a' := ?_) ?_ ?_
  rotate_left
  · show Act.put _ (some 23) _ = _
    simp only [Act.put, List.setIfInBounds_toArray, List.set_cons_zero, List.set_cons_succ, i64_w, i32_w]
    rfl
  refine pure_ (i := 8) (N := some 24) (v := ?_) (a' := ?_) #[true, true, true, true, true, true, true, true, true, false] rfl rfl (by kernel_rfl) (fun _ _ _ h => h) (Or.inl ⟨by rfl, ?_⟩) ?_ ?_
  rotate_left
  · intro w'
    go_simp
    with_reducible rfl
  rotate_left
  · simp only [Act.put, List.setIfInBounds_toArray, List.set_cons_zero, List.set_cons_succ, i64_w, i32_w]
    rfl
  refine pure_ (i := 9) (N := some 3) (v := ?_) (a' := ?_) #[true, true, true, true, true, true, true, true, true, true] rfl rfl (by kernel_rfl) (fun _ _ _ h => h) (Or.inl ⟨by rfl, ?_⟩) ?_ ?_
  rotate_left
  · intro w'
    go_simp
    with_reducible rfl
  rotate_left
  · simp only [Act.put, List.setIfInBounds_toArray, List.set_cons_zero, List.set_cons_succ, i64_w, i32_w]
    rfl
  refine done_ (by kernel_rfl) ?_
  have K3 : Aside0 (w3.heap[W.heap.size]? = some (.cells #[.int .i64 2, .int .i64 q, .string nm, .string x, .int .i64 0, .int .i64 0, .string ⟨#[]⟩] 57 (0, 0))) := ⟨(blk_below (w := w2) (blk_below (w := w1) (blk_below (w := (W.alloc (.cells #[.int .i64 2, .int .i64 q, .string nm, .string x, .int .i64 0, .int .i64 0, .string ⟨#[]⟩] 57)).drew) K0.out ⟨hb1.os, hb1.tape, hb1.output, hb1.size, hb1.block⟩) ⟨hb2.os, hb2.tape, hb2.output, hb2.size, hb2.block⟩) ⟨hb3.os, hb3.tape, hb3.output, hb3.size, hb3.block⟩)⟩
  (try clear hc)
  have hc := fun i => blk_cell K3.out i
  clear hb1 hb2 hb3
  go_wp2
  refine start_ (n := 11) (S := fun w' => (∀ i, w'.cell? ⟨W.heap.size, i, none⟩ = (#[.int .i64 2, .int .i64 q, .string nm, .string x, .int .i64 0, .int .i64 0, .string ⟨#[]⟩] : Array Value)[i]?)) (ds := []) #[false, false, false, false, false, false, false, false, false, false, false] (by kernel_rfl) rfl rfl ((fun i => blk_cell (w := w3.drew) K3.out i)) (fun hHeld => ?_)
  refine pure_ (i := 0) (N := some 25) (v := ?_) (a' := ?_) #[true, false, false, false, false, false, false, false, false, false, false] rfl rfl (by kernel_rfl) (fun _ _ _ h => h) (Or.inl ⟨by rfl, ?_⟩) ?_ ?_
  rotate_left
  · intro w'
    go_simp
    with_reducible rfl
  rotate_left
  · simp only [Act.put, List.setIfInBounds_toArray, List.set_cons_zero, List.set_cons_succ, i64_w, i32_w]
    rfl
  refine pure_ (i := 1) (N := some 26) (v := ?_) (a' := ?_) #[true, true, false, false, false, false, false, false, false, false, false] rfl rfl (by kernel_rfl) (fun _ _ _ h => h) (Or.inl ⟨by rfl, ?_⟩) ?_ ?_
  rotate_left
  · intro w'
    go_simp
    with_reducible rfl
  rotate_left
  · simp only [Act.put, List.setIfInBounds_toArray, List.set_cons_zero, List.set_cons_succ, i64_w, i32_w]
    rfl
  refine pure_ (i := 4) (N := some 29) (v := ?_) (a' := ?_) #[true, true, false, false, true, false, false, false, false, false, false] rfl rfl (by kernel_rfl) (fun _ _ _ h => h) (Or.inl ⟨by rfl, ?_⟩) ?_ ?_
  rotate_left
  · intro w'
    go_simp
    with_reducible rfl
  rotate_left
  · simp only [Act.put, List.setIfInBounds_toArray, List.set_cons_zero, List.set_cons_succ, i64_w, i32_w]
    rfl
  refine take_ (i := 2) (N := some 27) (v := ?_) (a' := ?_) #[true, true, true, false, true, false, false, false, false, false, false] rfl rfl (by kernel_rfl) (fun _ _ _ h => h) (Or.inl ⟨by rfl, ?_⟩) hHeld ?_ ?_
  rotate_left
  · intro w' s0
    go_simp
    with_reducible rfl
  rotate_left
  · simp only [Act.put, List.setIfInBounds_toArray, List.set_cons_zero, List.set_cons_succ, i64_w, i32_w]
    rfl
  refine take_ (i := 5) (N := some 30) (v := ?_) (a' := ?_) #[true, true, true, false, true, true, false, false, false, false, false] rfl rfl (by kernel_rfl) (fun _ _ _ h => h) (Or.inl ⟨by rfl, ?_⟩) hHeld ?_ ?_
  rotate_left
  · intro w' s0
    go_simp
    with_reducible rfl
  rotate_left
  · simp only [Act.put, List.setIfInBounds_toArray, List.set_cons_zero, List.set_cons_succ, i64_w, i32_w]
    rfl
  refine one_ (i := 3) (N := some 28) #[true, true, true, true, true, true, false, false, false, false, false] rfl rfl (by kernel_rfl) (by decide) (fun K hK => ?_)
  refine goes_ Tryd.func75 (by kernel_rfl) rfl #[.string ⟨#[49, 55]⟩, .string x] (by rfl) rfl rfl (by simp only [List.map_toArray, List.map_cons, List.map_nil]; rfl) ?_
  with_reducible refine (HP4.out _).mono ?_
  rintro e w4 ⟨rfl, hd4⟩
  refine ⟨_, rfl, ?_⟩
  have hb4 := hd4.below
  have B4 := Aside0.mk (show Below W.heap.size W w4 from (by first | exact B3.out.trans (hb4.mono B3.out.size) | exact (Below.drew B3.out).trans (hb4.mono B3.out.size)))
  have HL4 : Aside0 (W.heap.size + 0 < w4.heap.size) := ⟨Nat.lt_of_lt_of_le HL3.out hb4.size⟩
  refine hK.out _ _ ((fun i => (hb4.cell (p := ⟨W.heap.size, i, none⟩) (Nat.lt_of_le_of_lt (by first | exact Nat.le_refl _ | exact Nat.le_succ _) HL3.out)).trans (hHeld i))) (fun hHeld => ?_)
  clear hK K
  refine norm_ (a' := ?_) ?_ ?_
  rotate_left
  · show Act.put _ (some 28) _ = _
    simp only [Act.put, List.setIfInBounds_toArray, List.set_cons_zero, List.set_cons_succ, i64_w, i32_w]
    rfl
  refine one_ (i := 6) (N := some 31) #[true, true, true, true, true, true, true, false, false, false, false] rfl rfl (by kernel_rfl) (by decide) (fun K hK => ?_)
  refine goes_ Tryd.func82 (by kernel_rfl) rfl #[.int .i64 2] (by rfl) rfl rfl (by simp only [List.map_toArray, List.map_cons, List.map_nil]; rfl) ?_
  with_reducible refine (HWd.out _).mono ?_
  rintro e w5 ⟨rfl, hb5⟩
  refine ⟨_, rfl, ?_⟩
  have B5 := Aside0.mk (show Below W.heap.size W w5 from (by first | exact B4.out.trans (hb5.mono B4.out.size) | exact (Below.drew B4.out).trans (hb5.mono B4.out.size)))
  have HL5 : Aside0 (W.heap.size + 0 < w5.heap.size) := ⟨Nat.lt_of_lt_of_le HL4.out hb5.size⟩
  refine hK.out _ _ ((fun i => (hb5.cell (p := ⟨W.heap.size, i, none⟩) (Nat.lt_of_le_of_lt (by first | exact Nat.le_refl _ | exact Nat.le_succ _) HL4.out)).trans (hHeld i))) (fun hHeld => ?_)
  clear hK K
  refine norm_ (a' := ?_) ?_ ?_
  rotate_left
  · show Act.put _ (some 31) _ = _
    simp only [Act.put, List.setIfInBounds_toArray, List.set_cons_zero, List.set_cons_succ, i64_w, i32_w]
    rfl
  refine one_ (i := 7) (N := some 32) #[true, true, true, true, true, true, true, true, false, false, false] rfl rfl (by kernel_rfl) (by decide) (fun K hK => ?_)
  refine goes_ Tryd.func75 (by kernel_rfl) rfl #[.string ⟨#[49, 53, 48]⟩, .string ⟨#[52]⟩] (by rfl) rfl rfl (by simp only [List.map_toArray, List.map_cons, List.map_nil]; rfl) ?_
  with_reducible refine (HP5.out _).mono ?_
  rintro e w6 ⟨rfl, hd6⟩
  refine ⟨_, rfl, ?_⟩
  have hb6 := hd6.below
  have B6 := Aside0.mk (show Below W.heap.size W w6 from (by first | exact B5.out.trans (hb6.mono B5.out.size) | exact (Below.drew B5.out).trans (hb6.mono B5.out.size)))
  have HL6 : Aside0 (W.heap.size + 0 < w6.heap.size) := ⟨Nat.lt_of_lt_of_le HL5.out hb6.size⟩
  refine hK.out _ _ ((fun i => (hb6.cell (p := ⟨W.heap.size, i, none⟩) (Nat.lt_of_le_of_lt (by first | exact Nat.le_refl _ | exact Nat.le_succ _) HL5.out)).trans (hHeld i))) (fun hHeld => ?_)
  clear hK K
  refine norm_ (a' := ?_) ?_ ?_
  rotate_left
  · show Act.put _ (some 32) _ = _
    simp only [Act.put, List.setIfInBounds_toArray, List.set_cons_zero, List.set_cons_succ, i64_w, i32_w]
    rfl
  refine pure_ (i := 8) (N := some 33) (v := ?_) (a' := ?_) #[true, true, true, true, true, true, true, true, true, false, false] rfl rfl (by kernel_rfl) (fun _ _ _ h => h) (Or.inl ⟨by rfl, ?_⟩) ?_ ?_
  rotate_left
  · intro w'
    go_simp
    with_reducible rfl
  rotate_left
  · simp only [Act.put, List.setIfInBounds_toArray, List.set_cons_zero, List.set_cons_succ, i64_w, i32_w]
    rfl
  refine pure_ (i := 9) (N := some 34) (v := ?_) (a' := ?_) #[true, true, true, true, true, true, true, true, true, true, false] rfl rfl (by kernel_rfl) (fun _ _ _ h => h) (Or.inl ⟨by rfl, ?_⟩) ?_ ?_
  rotate_left
  · intro w'
    go_simp
    with_reducible rfl
  rotate_left
  · simp only [Act.put, List.setIfInBounds_toArray, List.set_cons_zero, List.set_cons_succ, i64_w, i32_w]
    rfl
  refine pure_ (i := 10) (N := some 3) (v := ?_) (a' := ?_) #[true, true, true, true, true, true, true, true, true, true, true] rfl rfl (by kernel_rfl) (fun _ _ _ h => h) (Or.inl ⟨by rfl, ?_⟩) ?_ ?_
  rotate_left
  · intro w'
    go_simp
    with_reducible rfl
  rotate_left
  · simp only [Act.put, List.setIfInBounds_toArray, List.set_cons_zero, List.set_cons_succ, i64_w, i32_w]
    rfl
  refine done_ (by kernel_rfl) ?_
  have K6 : Aside0 (w6.heap[W.heap.size]? = some (.cells #[.int .i64 2, .int .i64 q, .string nm, .string x, .int .i64 0, .int .i64 0, .string ⟨#[]⟩] 57 (0, 0))) := ⟨(blk_below (w := w5) (blk_below (w := w4) (blk_below (w := w3.drew) K3.out ⟨hb4.os, hb4.tape, hb4.output, hb4.size, hb4.block⟩) ⟨hb5.os, hb5.tape, hb5.output, hb5.size, hb5.block⟩) ⟨hb6.os, hb6.tape, hb6.output, hb6.size, hb6.block⟩)⟩
  (try clear hc)
  have hc := fun i => blk_cell K6.out i
  clear hb4 hb5 hb6
  go_wp2
  go_ret
  exact ⟨by rw [← ES.out]; rfl, B6.out⟩
set_option maxRecDepth 100000 in
set_option maxHeartbeats 8000000 in
theorem repform_3 (q : Int) (nm : ByteArray) (hq : 1 ≤ q ∧ q ≤ 1099511627776) (hi : nm.size ≤ 200) (x : ByteArray) (hx : x.size ≤ 200) (W : World) : Calls Tryd.prog 37 #[.agg #[.int .i64 3, .int .i64 q, .string nm, .string x, .int .i64 0, .int .i64 0, .string ⟨#[]⟩]] W fun e w' => e = .returned (.string ⟨((((repF ⟨3, q, nm, x, 0, 0, ⟨#[]⟩⟩).map pairF).map fieldL).flatten).toArray⟩) ∧ Below W.heap.size W w' := by
  obtain ⟨p1, e1, z1, l1⟩ := putF_ok ⟨#[51, 53]⟩ ⟨#[56]⟩ (by decide) (by decide)
  obtain ⟨p2, e2, z2, l2⟩ := numF_ok ⟨#[51, 52]⟩ q (by decide) (by omega) (by omega)
  obtain ⟨p3, e3, z3, l3⟩ := putF_ok ⟨#[49, 49]⟩ nm (by decide) (by omega)
  obtain ⟨p4, e4, z4, l4⟩ := putF_ok ⟨#[49, 55]⟩ x (by decide) (by omega)
  obtain ⟨p5, e5, z5, l5⟩ := putF_ok ⟨#[49, 53, 48]⟩ ⟨#[53]⟩ (by decide) (by decide)
  have es : (((p1 ++ p2) ++ p3) ++ (p4 ++ p5)) = ⟨((((repF ⟨3, q, nm, x, 0, 0, ⟨#[]⟩⟩).map pairF).map fieldL).flatten).toArray⟩ := by
    apply ba_ext
    rw [show repF ⟨3, q, nm, x, 0, 0, ⟨#[]⟩⟩ = [⟨35, ⟨#[56]⟩⟩, ⟨34, digitsB q⟩, ⟨11, nm⟩, ⟨17, x⟩, ⟨150, ⟨#[53]⟩⟩] from rfl]
    simp only [List.map_cons, List.map_nil, pairF, List.flatten_cons, List.flatten_nil, gl35, gl34, gl11, gl17, gl150, ByteArray.toList_data_append, l1, l2, l3, l4, l5]
    simp
  have HP1 : Aside0 (∀ X, Calls Tryd.prog 75 #[.string ⟨#[51, 53]⟩, .string ⟨#[56]⟩] X fun e w' => e = .returned (.string p1) ∧ Drawn0 X w') := ⟨fun X => spigotref12_Put.calls _ _ _ X e1⟩
  have HP2 : Aside0 (∀ X, Calls Tryd.prog 76 #[.string ⟨#[51, 52]⟩, .int .i64 q] X fun e w' => e = .returned (.string p2) ∧ Below X.heap.size X w') := ⟨fun X => spigotref12_Number.calls _ _ _ X e2⟩
  have HP3 : Aside0 (∀ X, Calls Tryd.prog 75 #[.string ⟨#[49, 49]⟩, .string nm] X fun e w' => e = .returned (.string p3) ∧ Drawn0 X w') := ⟨fun X => spigotref12_Put.calls _ _ _ X e3⟩
  have HP4 : Aside0 (∀ X, Calls Tryd.prog 75 #[.string ⟨#[49, 55]⟩, .string x] X fun e w' => e = .returned (.string p4) ∧ Drawn0 X w') := ⟨fun X => spigotref12_Put.calls _ _ _ X e4⟩
  have HP5 : Aside0 (∀ X, Calls Tryd.prog 75 #[.string ⟨#[49, 53, 48]⟩, .string ⟨#[53]⟩] X fun e w' => e = .returned (.string p5) ∧ Drawn0 X w') := ⟨fun X => spigotref12_Put.calls _ _ _ X e5⟩
  have ES := Aside0.mk es
  have HWd : Aside0 (∀ X, Calls Tryd.prog 82 #[.int .i64 3] X fun e w' => e = .returned (.string ⟨#[53]⟩) ∧ Below X.heap.size X w') := ⟨fun X => ref14_word_walk 3 (by decide) X⟩
  have s1 : (9223372036854775807 < p1.size + p2.size) = False := eq_false (Nat.not_lt.2 (by (try simp only [ByteArray.size_append]); omega))
  have s2 : (9223372036854775807 < p1.size + p2.size + p3.size) = False := eq_false (Nat.not_lt.2 (by (try simp only [ByteArray.size_append]); omega))
  have s3 : (9223372036854775807 < ((p1 ++ p2)).size + (p3).size) = False := eq_false (Nat.not_lt.2 (by (try simp only [ByteArray.size_append]); omega))
  have s4 : (9223372036854775807 < p4.size + p5.size) = False := eq_false (Nat.not_lt.2 (by (try simp only [ByteArray.size_append]); omega))
  have s5 : (9223372036854775807 < (((p1 ++ p2) ++ p3)).size + ((p4 ++ p5)).size) = False := eq_false (Nat.not_lt.2 (by (try simp only [ByteArray.size_append]); omega))
  have s6 : (9223372036854775807 < p1.size + p2.size + p3.size + (p4.size + p5.size)) = False := eq_false (Nat.not_lt.2 (by (try simp only [ByteArray.size_append]); omega))
  clear es e1 z1 l1 e2 z2 l2 e3 z3 l3 e4 z4 l4 e5 z5 l5
  have HS1 : (W.alloc (.cells #[.int .i64 3, .int .i64 q, .string nm, .string x, .int .i64 0, .int .i64 0, .string ⟨#[]⟩] 57)).heap.size = W.heap.size + 1 := World.size_alloc _ _
  have K0 := Aside0.mk (blk_new W (.cells #[.int .i64 3, .int .i64 q, .string nm, .string x, .int .i64 0, .int .i64 0, .string ⟨#[]⟩] 57))
  have B0 : Aside0 (Below W.heap.size W (W.alloc (.cells #[.int .i64 3, .int .i64 q, .string nm, .string x, .int .i64 0, .int .i64 0, .string ⟨#[]⟩] 57))) := ⟨(Below.refl _ _).alloc (Nat.le_refl _) _⟩
  have HL0 : Aside0 (W.heap.size + 0 < (W.alloc (.cells #[.int .i64 3, .int .i64 q, .string nm, .string x, .int .i64 0, .int .i64 0, .string ⟨#[]⟩] 57)).heap.size) := ⟨by rw [HS1]; omega⟩
  clear HS1
  go_enter Tryd.func37, Tryd.ntmps37
  go_wp2
  refine start_ (n := 10) (S := fun w' => (∀ i, w'.cell? ⟨W.heap.size, i, none⟩ = (#[.int .i64 3, .int .i64 q, .string nm, .string x, .int .i64 0, .int .i64 0, .string ⟨#[]⟩] : Array Value)[i]?)) (ds := []) #[false, false, false, false, false, false, false, false, false, false] (by kernel_rfl) rfl rfl ((fun i => blk_cell (w := (W.alloc (.cells #[.int .i64 3, .int .i64 q, .string nm, .string x, .int .i64 0, .int .i64 0, .string ⟨#[]⟩] 57)).drew) K0.out i)) (fun hHeld => ?_)
  refine pure_ (i := 1) (N := some 17) (v := ?_) (a' := ?_) #[false, true, false, false, false, false, false, false, false, false] rfl rfl (by kernel_rfl) (fun _ _ _ h => h) (Or.inl ⟨by rfl, ?_⟩) ?_ ?_
  rotate_left
  · intro w'
    go_simp
    with_reducible rfl
  rotate_left
  · simp only [Act.put, List.setIfInBounds_toArray, List.set_cons_zero, List.set_cons_succ, i64_w, i32_w]
    rfl
  refine pure_ (i := 5) (N := some 21) (v := ?_) (a' := ?_) #[false, true, false, false, false, true, false, false, false, false] rfl rfl (by kernel_rfl) (fun _ _ _ h => h) (Or.inl ⟨by rfl, ?_⟩) ?_ ?_
  rotate_left
  · intro w'
    go_simp
    with_reducible rfl
  rotate_left
  · simp only [Act.put, List.setIfInBounds_toArray, List.set_cons_zero, List.set_cons_succ, i64_w, i32_w]
    rfl
  refine take_ (i := 2) (N := some 18) (v := ?_) (a' := ?_) #[false, true, true, false, false, true, false, false, false, false] rfl rfl (by kernel_rfl) (fun _ _ _ h => h) (Or.inl ⟨by rfl, ?_⟩) hHeld ?_ ?_
  rotate_left
  · intro w' s0
    go_simp
    with_reducible rfl
  rotate_left
  · simp only [Act.put, List.setIfInBounds_toArray, List.set_cons_zero, List.set_cons_succ, i64_w, i32_w]
    rfl
  refine take_ (i := 6) (N := some 22) (v := ?_) (a' := ?_) #[false, true, true, false, false, true, true, false, false, false] rfl rfl (by kernel_rfl) (fun _ _ _ h => h) (Or.inl ⟨by rfl, ?_⟩) hHeld ?_ ?_
  rotate_left
  · intro w' s0
    go_simp
    with_reducible rfl
  rotate_left
  · simp only [Act.put, List.setIfInBounds_toArray, List.set_cons_zero, List.set_cons_succ, i64_w, i32_w]
    rfl
  refine one_ (i := 0) (N := some 16) #[true, true, true, false, false, true, true, false, false, false] rfl rfl (by kernel_rfl) (by decide) (fun K hK => ?_)
  refine goes_ Tryd.func75 (by kernel_rfl) rfl #[.string ⟨#[51, 53]⟩, .string ⟨#[56]⟩] (by rfl) rfl rfl (by simp only [List.map_toArray, List.map_cons, List.map_nil]; rfl) ?_
  with_reducible refine (HP1.out _).mono ?_
  rintro e w1 ⟨rfl, hd1⟩
  refine ⟨_, rfl, ?_⟩
  have hb1 := hd1.below
  have B1 := Aside0.mk (show Below W.heap.size W w1 from (by first | exact B0.out.trans (hb1.mono B0.out.size) | exact (Below.drew B0.out).trans (hb1.mono B0.out.size)))
  have HL1 : Aside0 (W.heap.size + 0 < w1.heap.size) := ⟨Nat.lt_of_lt_of_le HL0.out hb1.size⟩
  refine hK.out _ _ ((fun i => (hb1.cell (p := ⟨W.heap.size, i, none⟩) (Nat.lt_of_le_of_lt (by first | exact Nat.le_refl _ | exact Nat.le_succ _) HL0.out)).trans (hHeld i))) (fun hHeld => ?_)
  clear hK K
  refine norm_ (a' := ?_) ?_ ?_
  rotate_left
  · show Act.put _ (some 16) _ = _
    simp only [Act.put, List.setIfInBounds_toArray, List.set_cons_zero, List.set_cons_succ, i64_w, i32_w]
    rfl
  refine one_ (i := 3) (N := some 19) #[true, true, true, true, false, true, true, false, false, false] rfl rfl (by kernel_rfl) (by decide) (fun K hK => ?_)
  refine goes_ Tryd.func76 (by kernel_rfl) rfl #[.string ⟨#[51, 52]⟩, .int .i64 q] (by rfl) rfl rfl (by simp only [List.map_toArray, List.map_cons, List.map_nil]; rfl) ?_
  with_reducible refine (HP2.out _).mono ?_
  rintro e w2 ⟨rfl, hb2⟩
  refine ⟨_, rfl, ?_⟩
  have B2 := Aside0.mk (show Below W.heap.size W w2 from (by first | exact B1.out.trans (hb2.mono B1.out.size) | exact (Below.drew B1.out).trans (hb2.mono B1.out.size)))
  have HL2 : Aside0 (W.heap.size + 0 < w2.heap.size) := ⟨Nat.lt_of_lt_of_le HL1.out hb2.size⟩
  refine hK.out _ _ ((fun i => (hb2.cell (p := ⟨W.heap.size, i, none⟩) (Nat.lt_of_le_of_lt (by first | exact Nat.le_refl _ | exact Nat.le_succ _) HL1.out)).trans (hHeld i))) (fun hHeld => ?_)
  clear hK K
  refine norm_ (a' := ?_) ?_ ?_
  rotate_left
  · show Act.put _ (some 19) _ = _
    simp only [Act.put, List.setIfInBounds_toArray, List.set_cons_zero, List.set_cons_succ, i64_w, i32_w]
    rfl
  refine pure_ (i := 4) (N := some 20) (v := ?_) (a' := ?_) #[true, true, true, true, true, true, true, false, false, false] rfl rfl (by kernel_rfl) (fun _ _ _ h => h) (Or.inl ⟨by rfl, ?_⟩) ?_ ?_
  rotate_left
  · intro w'
    go_simp
    with_reducible rfl
  rotate_left
  · simp only [Act.put, List.setIfInBounds_toArray, List.set_cons_zero, List.set_cons_succ, i64_w, i32_w]
    rfl
  refine one_ (i := 7) (N := some 23) #[true, true, true, true, true, true, true, true, false, false] rfl rfl (by kernel_rfl) (by decide) (fun K hK => ?_)
  refine goes_ Tryd.func75 (by kernel_rfl) rfl #[.string ⟨#[49, 49]⟩, .string nm] (by rfl) rfl rfl (by simp only [List.map_toArray, List.map_cons, List.map_nil]; rfl) ?_
  with_reducible refine (HP3.out _).mono ?_
  rintro e w3 ⟨rfl, hd3⟩
  refine ⟨_, rfl, ?_⟩
  have hb3 := hd3.below
  have B3 := Aside0.mk (show Below W.heap.size W w3 from (by first | exact B2.out.trans (hb3.mono B2.out.size) | exact (Below.drew B2.out).trans (hb3.mono B2.out.size)))
  have HL3 : Aside0 (W.heap.size + 0 < w3.heap.size) := ⟨Nat.lt_of_lt_of_le HL2.out hb3.size⟩
  refine hK.out _ _ ((fun i => (hb3.cell (p := ⟨W.heap.size, i, none⟩) (Nat.lt_of_le_of_lt (by first | exact Nat.le_refl _ | exact Nat.le_succ _) HL2.out)).trans (hHeld i))) (fun hHeld => ?_)
  clear hK K
  refine norm_ (a' := ?_) ?_ ?_
  rotate_left
  · show Act.put _ (some 23) _ = _
    simp only [Act.put, List.setIfInBounds_toArray, List.set_cons_zero, List.set_cons_succ, i64_w, i32_w]
    rfl
  refine pure_ (i := 8) (N := some 24) (v := ?_) (a' := ?_) #[true, true, true, true, true, true, true, true, true, false] rfl rfl (by kernel_rfl) (fun _ _ _ h => h) (Or.inl ⟨by rfl, ?_⟩) ?_ ?_
  rotate_left
  · intro w'
    go_simp
    with_reducible rfl
  rotate_left
  · simp only [Act.put, List.setIfInBounds_toArray, List.set_cons_zero, List.set_cons_succ, i64_w, i32_w]
    rfl
  refine pure_ (i := 9) (N := some 3) (v := ?_) (a' := ?_) #[true, true, true, true, true, true, true, true, true, true] rfl rfl (by kernel_rfl) (fun _ _ _ h => h) (Or.inl ⟨by rfl, ?_⟩) ?_ ?_
  rotate_left
  · intro w'
    go_simp
    with_reducible rfl
  rotate_left
  · simp only [Act.put, List.setIfInBounds_toArray, List.set_cons_zero, List.set_cons_succ, i64_w, i32_w]
    rfl
  refine done_ (by kernel_rfl) ?_
  have K3 : Aside0 (w3.heap[W.heap.size]? = some (.cells #[.int .i64 3, .int .i64 q, .string nm, .string x, .int .i64 0, .int .i64 0, .string ⟨#[]⟩] 57 (0, 0))) := ⟨(blk_below (w := w2) (blk_below (w := w1) (blk_below (w := (W.alloc (.cells #[.int .i64 3, .int .i64 q, .string nm, .string x, .int .i64 0, .int .i64 0, .string ⟨#[]⟩] 57)).drew) K0.out ⟨hb1.os, hb1.tape, hb1.output, hb1.size, hb1.block⟩) ⟨hb2.os, hb2.tape, hb2.output, hb2.size, hb2.block⟩) ⟨hb3.os, hb3.tape, hb3.output, hb3.size, hb3.block⟩)⟩
  (try clear hc)
  have hc := fun i => blk_cell K3.out i
  clear hb1 hb2 hb3
  go_wp2
  refine start_ (n := 11) (S := fun w' => (∀ i, w'.cell? ⟨W.heap.size, i, none⟩ = (#[.int .i64 3, .int .i64 q, .string nm, .string x, .int .i64 0, .int .i64 0, .string ⟨#[]⟩] : Array Value)[i]?)) (ds := []) #[false, false, false, false, false, false, false, false, false, false, false] (by kernel_rfl) rfl rfl ((fun i => blk_cell (w := w3.drew) K3.out i)) (fun hHeld => ?_)
  refine pure_ (i := 0) (N := some 25) (v := ?_) (a' := ?_) #[true, false, false, false, false, false, false, false, false, false, false] rfl rfl (by kernel_rfl) (fun _ _ _ h => h) (Or.inl ⟨by rfl, ?_⟩) ?_ ?_
  rotate_left
  · intro w'
    go_simp
    with_reducible rfl
  rotate_left
  · simp only [Act.put, List.setIfInBounds_toArray, List.set_cons_zero, List.set_cons_succ, i64_w, i32_w]
    rfl
  refine pure_ (i := 1) (N := some 26) (v := ?_) (a' := ?_) #[true, true, false, false, false, false, false, false, false, false, false] rfl rfl (by kernel_rfl) (fun _ _ _ h => h) (Or.inl ⟨by rfl, ?_⟩) ?_ ?_
  rotate_left
  · intro w'
    go_simp
    with_reducible rfl
  rotate_left
  · simp only [Act.put, List.setIfInBounds_toArray, List.set_cons_zero, List.set_cons_succ, i64_w, i32_w]
    rfl
  refine pure_ (i := 4) (N := some 29) (v := ?_) (a' := ?_) #[true, true, false, false, true, false, false, false, false, false, false] rfl rfl (by kernel_rfl) (fun _ _ _ h => h) (Or.inl ⟨by rfl, ?_⟩) ?_ ?_
  rotate_left
  · intro w'
    go_simp
    with_reducible rfl
  rotate_left
  · simp only [Act.put, List.setIfInBounds_toArray, List.set_cons_zero, List.set_cons_succ, i64_w, i32_w]
    rfl
  refine take_ (i := 2) (N := some 27) (v := ?_) (a' := ?_) #[true, true, true, false, true, false, false, false, false, false, false] rfl rfl (by kernel_rfl) (fun _ _ _ h => h) (Or.inl ⟨by rfl, ?_⟩) hHeld ?_ ?_
  rotate_left
  · intro w' s0
    go_simp
    with_reducible rfl
  rotate_left
  · simp only [Act.put, List.setIfInBounds_toArray, List.set_cons_zero, List.set_cons_succ, i64_w, i32_w]
    rfl
  refine take_ (i := 5) (N := some 30) (v := ?_) (a' := ?_) #[true, true, true, false, true, true, false, false, false, false, false] rfl rfl (by kernel_rfl) (fun _ _ _ h => h) (Or.inl ⟨by rfl, ?_⟩) hHeld ?_ ?_
  rotate_left
  · intro w' s0
    go_simp
    with_reducible rfl
  rotate_left
  · simp only [Act.put, List.setIfInBounds_toArray, List.set_cons_zero, List.set_cons_succ, i64_w, i32_w]
    rfl
  refine one_ (i := 3) (N := some 28) #[true, true, true, true, true, true, false, false, false, false, false] rfl rfl (by kernel_rfl) (by decide) (fun K hK => ?_)
  refine goes_ Tryd.func75 (by kernel_rfl) rfl #[.string ⟨#[49, 55]⟩, .string x] (by rfl) rfl rfl (by simp only [List.map_toArray, List.map_cons, List.map_nil]; rfl) ?_
  with_reducible refine (HP4.out _).mono ?_
  rintro e w4 ⟨rfl, hd4⟩
  refine ⟨_, rfl, ?_⟩
  have hb4 := hd4.below
  have B4 := Aside0.mk (show Below W.heap.size W w4 from (by first | exact B3.out.trans (hb4.mono B3.out.size) | exact (Below.drew B3.out).trans (hb4.mono B3.out.size)))
  have HL4 : Aside0 (W.heap.size + 0 < w4.heap.size) := ⟨Nat.lt_of_lt_of_le HL3.out hb4.size⟩
  refine hK.out _ _ ((fun i => (hb4.cell (p := ⟨W.heap.size, i, none⟩) (Nat.lt_of_le_of_lt (by first | exact Nat.le_refl _ | exact Nat.le_succ _) HL3.out)).trans (hHeld i))) (fun hHeld => ?_)
  clear hK K
  refine norm_ (a' := ?_) ?_ ?_
  rotate_left
  · show Act.put _ (some 28) _ = _
    simp only [Act.put, List.setIfInBounds_toArray, List.set_cons_zero, List.set_cons_succ, i64_w, i32_w]
    rfl
  refine one_ (i := 6) (N := some 31) #[true, true, true, true, true, true, true, false, false, false, false] rfl rfl (by kernel_rfl) (by decide) (fun K hK => ?_)
  refine goes_ Tryd.func82 (by kernel_rfl) rfl #[.int .i64 3] (by rfl) rfl rfl (by simp only [List.map_toArray, List.map_cons, List.map_nil]; rfl) ?_
  with_reducible refine (HWd.out _).mono ?_
  rintro e w5 ⟨rfl, hb5⟩
  refine ⟨_, rfl, ?_⟩
  have B5 := Aside0.mk (show Below W.heap.size W w5 from (by first | exact B4.out.trans (hb5.mono B4.out.size) | exact (Below.drew B4.out).trans (hb5.mono B4.out.size)))
  have HL5 : Aside0 (W.heap.size + 0 < w5.heap.size) := ⟨Nat.lt_of_lt_of_le HL4.out hb5.size⟩
  refine hK.out _ _ ((fun i => (hb5.cell (p := ⟨W.heap.size, i, none⟩) (Nat.lt_of_le_of_lt (by first | exact Nat.le_refl _ | exact Nat.le_succ _) HL4.out)).trans (hHeld i))) (fun hHeld => ?_)
  clear hK K
  refine norm_ (a' := ?_) ?_ ?_
  rotate_left
  · show Act.put _ (some 31) _ = _
    simp only [Act.put, List.setIfInBounds_toArray, List.set_cons_zero, List.set_cons_succ, i64_w, i32_w]
    rfl
  refine one_ (i := 7) (N := some 32) #[true, true, true, true, true, true, true, true, false, false, false] rfl rfl (by kernel_rfl) (by decide) (fun K hK => ?_)
  refine goes_ Tryd.func75 (by kernel_rfl) rfl #[.string ⟨#[49, 53, 48]⟩, .string ⟨#[53]⟩] (by rfl) rfl rfl (by simp only [List.map_toArray, List.map_cons, List.map_nil]; rfl) ?_
  with_reducible refine (HP5.out _).mono ?_
  rintro e w6 ⟨rfl, hd6⟩
  refine ⟨_, rfl, ?_⟩
  have hb6 := hd6.below
  have B6 := Aside0.mk (show Below W.heap.size W w6 from (by first | exact B5.out.trans (hb6.mono B5.out.size) | exact (Below.drew B5.out).trans (hb6.mono B5.out.size)))
  have HL6 : Aside0 (W.heap.size + 0 < w6.heap.size) := ⟨Nat.lt_of_lt_of_le HL5.out hb6.size⟩
  refine hK.out _ _ ((fun i => (hb6.cell (p := ⟨W.heap.size, i, none⟩) (Nat.lt_of_le_of_lt (by first | exact Nat.le_refl _ | exact Nat.le_succ _) HL5.out)).trans (hHeld i))) (fun hHeld => ?_)
  clear hK K
  refine norm_ (a' := ?_) ?_ ?_
  rotate_left
  · show Act.put _ (some 32) _ = _
    simp only [Act.put, List.setIfInBounds_toArray, List.set_cons_zero, List.set_cons_succ, i64_w, i32_w]
    rfl
  refine pure_ (i := 8) (N := some 33) (v := ?_) (a' := ?_) #[true, true, true, true, true, true, true, true, true, false, false] rfl rfl (by kernel_rfl) (fun _ _ _ h => h) (Or.inl ⟨by rfl, ?_⟩) ?_ ?_
  rotate_left
  · intro w'
    go_simp
    with_reducible rfl
  rotate_left
  · simp only [Act.put, List.setIfInBounds_toArray, List.set_cons_zero, List.set_cons_succ, i64_w, i32_w]
    rfl
  refine pure_ (i := 9) (N := some 34) (v := ?_) (a' := ?_) #[true, true, true, true, true, true, true, true, true, true, false] rfl rfl (by kernel_rfl) (fun _ _ _ h => h) (Or.inl ⟨by rfl, ?_⟩) ?_ ?_
  rotate_left
  · intro w'
    go_simp
    with_reducible rfl
  rotate_left
  · simp only [Act.put, List.setIfInBounds_toArray, List.set_cons_zero, List.set_cons_succ, i64_w, i32_w]
    rfl
  refine pure_ (i := 10) (N := some 3) (v := ?_) (a' := ?_) #[true, true, true, true, true, true, true, true, true, true, true] rfl rfl (by kernel_rfl) (fun _ _ _ h => h) (Or.inl ⟨by rfl, ?_⟩) ?_ ?_
  rotate_left
  · intro w'
    go_simp
    with_reducible rfl
  rotate_left
  · simp only [Act.put, List.setIfInBounds_toArray, List.set_cons_zero, List.set_cons_succ, i64_w, i32_w]
    rfl
  refine done_ (by kernel_rfl) ?_
  have K6 : Aside0 (w6.heap[W.heap.size]? = some (.cells #[.int .i64 3, .int .i64 q, .string nm, .string x, .int .i64 0, .int .i64 0, .string ⟨#[]⟩] 57 (0, 0))) := ⟨(blk_below (w := w5) (blk_below (w := w4) (blk_below (w := w3.drew) K3.out ⟨hb4.os, hb4.tape, hb4.output, hb4.size, hb4.block⟩) ⟨hb5.os, hb5.tape, hb5.output, hb5.size, hb5.block⟩) ⟨hb6.os, hb6.tape, hb6.output, hb6.size, hb6.block⟩)⟩
  (try clear hc)
  have hc := fun i => blk_cell K6.out i
  clear hb4 hb5 hb6
  go_wp2
  go_ret
  exact ⟨by rw [← ES.out]; rfl, B6.out⟩
set_option maxRecDepth 100000 in
set_option maxHeartbeats 8000000 in
theorem repform_4 (q : Int) (nm : ByteArray) (hq : 1 ≤ q ∧ q ≤ 1099511627776) (hi : nm.size ≤ 200) (x : ByteArray) (hx : x.size ≤ 200) (W : World) : Calls Tryd.prog 37 #[.agg #[.int .i64 4, .int .i64 q, .string nm, .string x, .int .i64 0, .int .i64 0, .string ⟨#[]⟩]] W fun e w' => e = .returned (.string ⟨((((repF ⟨4, q, nm, x, 0, 0, ⟨#[]⟩⟩).map pairF).map fieldL).flatten).toArray⟩) ∧ Below W.heap.size W w' := by
  obtain ⟨p1, e1, z1, l1⟩ := putF_ok ⟨#[51, 53]⟩ ⟨#[56]⟩ (by decide) (by decide)
  obtain ⟨p2, e2, z2, l2⟩ := numF_ok ⟨#[51, 52]⟩ q (by decide) (by omega) (by omega)
  obtain ⟨p3, e3, z3, l3⟩ := putF_ok ⟨#[49, 49]⟩ nm (by decide) (by omega)
  obtain ⟨p4, e4, z4, l4⟩ := putF_ok ⟨#[49, 55]⟩ x (by decide) (by omega)
  obtain ⟨p5, e5, z5, l5⟩ := putF_ok ⟨#[49, 53, 48]⟩ ⟨#[56]⟩ (by decide) (by decide)
  have es : (((p1 ++ p2) ++ p3) ++ (p4 ++ p5)) = ⟨((((repF ⟨4, q, nm, x, 0, 0, ⟨#[]⟩⟩).map pairF).map fieldL).flatten).toArray⟩ := by
    apply ba_ext
    rw [show repF ⟨4, q, nm, x, 0, 0, ⟨#[]⟩⟩ = [⟨35, ⟨#[56]⟩⟩, ⟨34, digitsB q⟩, ⟨11, nm⟩, ⟨17, x⟩, ⟨150, ⟨#[56]⟩⟩] from rfl]
    simp only [List.map_cons, List.map_nil, pairF, List.flatten_cons, List.flatten_nil, gl35, gl34, gl11, gl17, gl150, ByteArray.toList_data_append, l1, l2, l3, l4, l5]
    simp
  have HP1 : Aside0 (∀ X, Calls Tryd.prog 75 #[.string ⟨#[51, 53]⟩, .string ⟨#[56]⟩] X fun e w' => e = .returned (.string p1) ∧ Drawn0 X w') := ⟨fun X => spigotref12_Put.calls _ _ _ X e1⟩
  have HP2 : Aside0 (∀ X, Calls Tryd.prog 76 #[.string ⟨#[51, 52]⟩, .int .i64 q] X fun e w' => e = .returned (.string p2) ∧ Below X.heap.size X w') := ⟨fun X => spigotref12_Number.calls _ _ _ X e2⟩
  have HP3 : Aside0 (∀ X, Calls Tryd.prog 75 #[.string ⟨#[49, 49]⟩, .string nm] X fun e w' => e = .returned (.string p3) ∧ Drawn0 X w') := ⟨fun X => spigotref12_Put.calls _ _ _ X e3⟩
  have HP4 : Aside0 (∀ X, Calls Tryd.prog 75 #[.string ⟨#[49, 55]⟩, .string x] X fun e w' => e = .returned (.string p4) ∧ Drawn0 X w') := ⟨fun X => spigotref12_Put.calls _ _ _ X e4⟩
  have HP5 : Aside0 (∀ X, Calls Tryd.prog 75 #[.string ⟨#[49, 53, 48]⟩, .string ⟨#[56]⟩] X fun e w' => e = .returned (.string p5) ∧ Drawn0 X w') := ⟨fun X => spigotref12_Put.calls _ _ _ X e5⟩
  have ES := Aside0.mk es
  have HWd : Aside0 (∀ X, Calls Tryd.prog 82 #[.int .i64 4] X fun e w' => e = .returned (.string ⟨#[56]⟩) ∧ Below X.heap.size X w') := ⟨fun X => ref14_word_walk 4 (by decide) X⟩
  have s1 : (9223372036854775807 < p1.size + p2.size) = False := eq_false (Nat.not_lt.2 (by (try simp only [ByteArray.size_append]); omega))
  have s2 : (9223372036854775807 < p1.size + p2.size + p3.size) = False := eq_false (Nat.not_lt.2 (by (try simp only [ByteArray.size_append]); omega))
  have s3 : (9223372036854775807 < ((p1 ++ p2)).size + (p3).size) = False := eq_false (Nat.not_lt.2 (by (try simp only [ByteArray.size_append]); omega))
  have s4 : (9223372036854775807 < p4.size + p5.size) = False := eq_false (Nat.not_lt.2 (by (try simp only [ByteArray.size_append]); omega))
  have s5 : (9223372036854775807 < (((p1 ++ p2) ++ p3)).size + ((p4 ++ p5)).size) = False := eq_false (Nat.not_lt.2 (by (try simp only [ByteArray.size_append]); omega))
  have s6 : (9223372036854775807 < p1.size + p2.size + p3.size + (p4.size + p5.size)) = False := eq_false (Nat.not_lt.2 (by (try simp only [ByteArray.size_append]); omega))
  clear es e1 z1 l1 e2 z2 l2 e3 z3 l3 e4 z4 l4 e5 z5 l5
  have HS1 : (W.alloc (.cells #[.int .i64 4, .int .i64 q, .string nm, .string x, .int .i64 0, .int .i64 0, .string ⟨#[]⟩] 57)).heap.size = W.heap.size + 1 := World.size_alloc _ _
  have K0 := Aside0.mk (blk_new W (.cells #[.int .i64 4, .int .i64 q, .string nm, .string x, .int .i64 0, .int .i64 0, .string ⟨#[]⟩] 57))
  have B0 : Aside0 (Below W.heap.size W (W.alloc (.cells #[.int .i64 4, .int .i64 q, .string nm, .string x, .int .i64 0, .int .i64 0, .string ⟨#[]⟩] 57))) := ⟨(Below.refl _ _).alloc (Nat.le_refl _) _⟩
  have HL0 : Aside0 (W.heap.size + 0 < (W.alloc (.cells #[.int .i64 4, .int .i64 q, .string nm, .string x, .int .i64 0, .int .i64 0, .string ⟨#[]⟩] 57)).heap.size) := ⟨by rw [HS1]; omega⟩
  clear HS1
  go_enter Tryd.func37, Tryd.ntmps37
  go_wp2
  refine start_ (n := 10) (S := fun w' => (∀ i, w'.cell? ⟨W.heap.size, i, none⟩ = (#[.int .i64 4, .int .i64 q, .string nm, .string x, .int .i64 0, .int .i64 0, .string ⟨#[]⟩] : Array Value)[i]?)) (ds := []) #[false, false, false, false, false, false, false, false, false, false] (by kernel_rfl) rfl rfl ((fun i => blk_cell (w := (W.alloc (.cells #[.int .i64 4, .int .i64 q, .string nm, .string x, .int .i64 0, .int .i64 0, .string ⟨#[]⟩] 57)).drew) K0.out i)) (fun hHeld => ?_)
  refine pure_ (i := 1) (N := some 17) (v := ?_) (a' := ?_) #[false, true, false, false, false, false, false, false, false, false] rfl rfl (by kernel_rfl) (fun _ _ _ h => h) (Or.inl ⟨by rfl, ?_⟩) ?_ ?_
  rotate_left
  · intro w'
    go_simp
    with_reducible rfl
  rotate_left
  · simp only [Act.put, List.setIfInBounds_toArray, List.set_cons_zero, List.set_cons_succ, i64_w, i32_w]
    rfl
  refine pure_ (i := 5) (N := some 21) (v := ?_) (a' := ?_) #[false, true, false, false, false, true, false, false, false, false] rfl rfl (by kernel_rfl) (fun _ _ _ h => h) (Or.inl ⟨by rfl, ?_⟩) ?_ ?_
  rotate_left
  · intro w'
    go_simp
    with_reducible rfl
  rotate_left
  · simp only [Act.put, List.setIfInBounds_toArray, List.set_cons_zero, List.set_cons_succ, i64_w, i32_w]
    rfl
  refine take_ (i := 2) (N := some 18) (v := ?_) (a' := ?_) #[false, true, true, false, false, true, false, false, false, false] rfl rfl (by kernel_rfl) (fun _ _ _ h => h) (Or.inl ⟨by rfl, ?_⟩) hHeld ?_ ?_
  rotate_left
  · intro w' s0
    go_simp
    with_reducible rfl
  rotate_left
  · simp only [Act.put, List.setIfInBounds_toArray, List.set_cons_zero, List.set_cons_succ, i64_w, i32_w]
    rfl
  refine take_ (i := 6) (N := some 22) (v := ?_) (a' := ?_) #[false, true, true, false, false, true, true, false, false, false] rfl rfl (by kernel_rfl) (fun _ _ _ h => h) (Or.inl ⟨by rfl, ?_⟩) hHeld ?_ ?_
  rotate_left
  · intro w' s0
    go_simp
    with_reducible rfl
  rotate_left
  · simp only [Act.put, List.setIfInBounds_toArray, List.set_cons_zero, List.set_cons_succ, i64_w, i32_w]
    rfl
  refine one_ (i := 0) (N := some 16) #[true, true, true, false, false, true, true, false, false, false] rfl rfl (by kernel_rfl) (by decide) (fun K hK => ?_)
  refine goes_ Tryd.func75 (by kernel_rfl) rfl #[.string ⟨#[51, 53]⟩, .string ⟨#[56]⟩] (by rfl) rfl rfl (by simp only [List.map_toArray, List.map_cons, List.map_nil]; rfl) ?_
  with_reducible refine (HP1.out _).mono ?_
  rintro e w1 ⟨rfl, hd1⟩
  refine ⟨_, rfl, ?_⟩
  have hb1 := hd1.below
  have B1 := Aside0.mk (show Below W.heap.size W w1 from (by first | exact B0.out.trans (hb1.mono B0.out.size) | exact (Below.drew B0.out).trans (hb1.mono B0.out.size)))
  have HL1 : Aside0 (W.heap.size + 0 < w1.heap.size) := ⟨Nat.lt_of_lt_of_le HL0.out hb1.size⟩
  refine hK.out _ _ ((fun i => (hb1.cell (p := ⟨W.heap.size, i, none⟩) (Nat.lt_of_le_of_lt (by first | exact Nat.le_refl _ | exact Nat.le_succ _) HL0.out)).trans (hHeld i))) (fun hHeld => ?_)
  clear hK K
  refine norm_ (a' := ?_) ?_ ?_
  rotate_left
  · show Act.put _ (some 16) _ = _
    simp only [Act.put, List.setIfInBounds_toArray, List.set_cons_zero, List.set_cons_succ, i64_w, i32_w]
    rfl
  refine one_ (i := 3) (N := some 19) #[true, true, true, true, false, true, true, false, false, false] rfl rfl (by kernel_rfl) (by decide) (fun K hK => ?_)
  refine goes_ Tryd.func76 (by kernel_rfl) rfl #[.string ⟨#[51, 52]⟩, .int .i64 q] (by rfl) rfl rfl (by simp only [List.map_toArray, List.map_cons, List.map_nil]; rfl) ?_
  with_reducible refine (HP2.out _).mono ?_
  rintro e w2 ⟨rfl, hb2⟩
  refine ⟨_, rfl, ?_⟩
  have B2 := Aside0.mk (show Below W.heap.size W w2 from (by first | exact B1.out.trans (hb2.mono B1.out.size) | exact (Below.drew B1.out).trans (hb2.mono B1.out.size)))
  have HL2 : Aside0 (W.heap.size + 0 < w2.heap.size) := ⟨Nat.lt_of_lt_of_le HL1.out hb2.size⟩
  refine hK.out _ _ ((fun i => (hb2.cell (p := ⟨W.heap.size, i, none⟩) (Nat.lt_of_le_of_lt (by first | exact Nat.le_refl _ | exact Nat.le_succ _) HL1.out)).trans (hHeld i))) (fun hHeld => ?_)
  clear hK K
  refine norm_ (a' := ?_) ?_ ?_
  rotate_left
  · show Act.put _ (some 19) _ = _
    simp only [Act.put, List.setIfInBounds_toArray, List.set_cons_zero, List.set_cons_succ, i64_w, i32_w]
    rfl
  refine pure_ (i := 4) (N := some 20) (v := ?_) (a' := ?_) #[true, true, true, true, true, true, true, false, false, false] rfl rfl (by kernel_rfl) (fun _ _ _ h => h) (Or.inl ⟨by rfl, ?_⟩) ?_ ?_
  rotate_left
  · intro w'
    go_simp
    with_reducible rfl
  rotate_left
  · simp only [Act.put, List.setIfInBounds_toArray, List.set_cons_zero, List.set_cons_succ, i64_w, i32_w]
    rfl
  refine one_ (i := 7) (N := some 23) #[true, true, true, true, true, true, true, true, false, false] rfl rfl (by kernel_rfl) (by decide) (fun K hK => ?_)
  refine goes_ Tryd.func75 (by kernel_rfl) rfl #[.string ⟨#[49, 49]⟩, .string nm] (by rfl) rfl rfl (by simp only [List.map_toArray, List.map_cons, List.map_nil]; rfl) ?_
  with_reducible refine (HP3.out _).mono ?_
  rintro e w3 ⟨rfl, hd3⟩
  refine ⟨_, rfl, ?_⟩
  have hb3 := hd3.below
  have B3 := Aside0.mk (show Below W.heap.size W w3 from (by first | exact B2.out.trans (hb3.mono B2.out.size) | exact (Below.drew B2.out).trans (hb3.mono B2.out.size)))
  have HL3 : Aside0 (W.heap.size + 0 < w3.heap.size) := ⟨Nat.lt_of_lt_of_le HL2.out hb3.size⟩
  refine hK.out _ _ ((fun i => (hb3.cell (p := ⟨W.heap.size, i, none⟩) (Nat.lt_of_le_of_lt (by first | exact Nat.le_refl _ | exact Nat.le_succ _) HL2.out)).trans (hHeld i))) (fun hHeld => ?_)
  clear hK K
  refine norm_ (a' := ?_) ?_ ?_
  rotate_left
  · show Act.put _ (some 23) _ = _
    simp only [Act.put, List.setIfInBounds_toArray, List.set_cons_zero, List.set_cons_succ, i64_w, i32_w]
    rfl
  refine pure_ (i := 8) (N := some 24) (v := ?_) (a' := ?_) #[true, true, true, true, true, true, true, true, true, false] rfl rfl (by kernel_rfl) (fun _ _ _ h => h) (Or.inl ⟨by rfl, ?_⟩) ?_ ?_
  rotate_left
  · intro w'
    go_simp
    with_reducible rfl
  rotate_left
  · simp only [Act.put, List.setIfInBounds_toArray, List.set_cons_zero, List.set_cons_succ, i64_w, i32_w]
    rfl
  refine pure_ (i := 9) (N := some 3) (v := ?_) (a' := ?_) #[true, true, true, true, true, true, true, true, true, true] rfl rfl (by kernel_rfl) (fun _ _ _ h => h) (Or.inl ⟨by rfl, ?_⟩) ?_ ?_
  rotate_left
  · intro w'
    go_simp
    with_reducible rfl
  rotate_left
  · simp only [Act.put, List.setIfInBounds_toArray, List.set_cons_zero, List.set_cons_succ, i64_w, i32_w]
    rfl
  refine done_ (by kernel_rfl) ?_
  have K3 : Aside0 (w3.heap[W.heap.size]? = some (.cells #[.int .i64 4, .int .i64 q, .string nm, .string x, .int .i64 0, .int .i64 0, .string ⟨#[]⟩] 57 (0, 0))) := ⟨(blk_below (w := w2) (blk_below (w := w1) (blk_below (w := (W.alloc (.cells #[.int .i64 4, .int .i64 q, .string nm, .string x, .int .i64 0, .int .i64 0, .string ⟨#[]⟩] 57)).drew) K0.out ⟨hb1.os, hb1.tape, hb1.output, hb1.size, hb1.block⟩) ⟨hb2.os, hb2.tape, hb2.output, hb2.size, hb2.block⟩) ⟨hb3.os, hb3.tape, hb3.output, hb3.size, hb3.block⟩)⟩
  (try clear hc)
  have hc := fun i => blk_cell K3.out i
  clear hb1 hb2 hb3
  go_wp2
  refine start_ (n := 11) (S := fun w' => (∀ i, w'.cell? ⟨W.heap.size, i, none⟩ = (#[.int .i64 4, .int .i64 q, .string nm, .string x, .int .i64 0, .int .i64 0, .string ⟨#[]⟩] : Array Value)[i]?)) (ds := []) #[false, false, false, false, false, false, false, false, false, false, false] (by kernel_rfl) rfl rfl ((fun i => blk_cell (w := w3.drew) K3.out i)) (fun hHeld => ?_)
  refine pure_ (i := 0) (N := some 25) (v := ?_) (a' := ?_) #[true, false, false, false, false, false, false, false, false, false, false] rfl rfl (by kernel_rfl) (fun _ _ _ h => h) (Or.inl ⟨by rfl, ?_⟩) ?_ ?_
  rotate_left
  · intro w'
    go_simp
    with_reducible rfl
  rotate_left
  · simp only [Act.put, List.setIfInBounds_toArray, List.set_cons_zero, List.set_cons_succ, i64_w, i32_w]
    rfl
  refine pure_ (i := 1) (N := some 26) (v := ?_) (a' := ?_) #[true, true, false, false, false, false, false, false, false, false, false] rfl rfl (by kernel_rfl) (fun _ _ _ h => h) (Or.inl ⟨by rfl, ?_⟩) ?_ ?_
  rotate_left
  · intro w'
    go_simp
    with_reducible rfl
  rotate_left
  · simp only [Act.put, List.setIfInBounds_toArray, List.set_cons_zero, List.set_cons_succ, i64_w, i32_w]
    rfl
  refine pure_ (i := 4) (N := some 29) (v := ?_) (a' := ?_) #[true, true, false, false, true, false, false, false, false, false, false] rfl rfl (by kernel_rfl) (fun _ _ _ h => h) (Or.inl ⟨by rfl, ?_⟩) ?_ ?_
  rotate_left
  · intro w'
    go_simp
    with_reducible rfl
  rotate_left
  · simp only [Act.put, List.setIfInBounds_toArray, List.set_cons_zero, List.set_cons_succ, i64_w, i32_w]
    rfl
  refine take_ (i := 2) (N := some 27) (v := ?_) (a' := ?_) #[true, true, true, false, true, false, false, false, false, false, false] rfl rfl (by kernel_rfl) (fun _ _ _ h => h) (Or.inl ⟨by rfl, ?_⟩) hHeld ?_ ?_
  rotate_left
  · intro w' s0
    go_simp
    with_reducible rfl
  rotate_left
  · simp only [Act.put, List.setIfInBounds_toArray, List.set_cons_zero, List.set_cons_succ, i64_w, i32_w]
    rfl
  refine take_ (i := 5) (N := some 30) (v := ?_) (a' := ?_) #[true, true, true, false, true, true, false, false, false, false, false] rfl rfl (by kernel_rfl) (fun _ _ _ h => h) (Or.inl ⟨by rfl, ?_⟩) hHeld ?_ ?_
  rotate_left
  · intro w' s0
    go_simp
    with_reducible rfl
  rotate_left
  · simp only [Act.put, List.setIfInBounds_toArray, List.set_cons_zero, List.set_cons_succ, i64_w, i32_w]
    rfl
  refine one_ (i := 3) (N := some 28) #[true, true, true, true, true, true, false, false, false, false, false] rfl rfl (by kernel_rfl) (by decide) (fun K hK => ?_)
  refine goes_ Tryd.func75 (by kernel_rfl) rfl #[.string ⟨#[49, 55]⟩, .string x] (by rfl) rfl rfl (by simp only [List.map_toArray, List.map_cons, List.map_nil]; rfl) ?_
  with_reducible refine (HP4.out _).mono ?_
  rintro e w4 ⟨rfl, hd4⟩
  refine ⟨_, rfl, ?_⟩
  have hb4 := hd4.below
  have B4 := Aside0.mk (show Below W.heap.size W w4 from (by first | exact B3.out.trans (hb4.mono B3.out.size) | exact (Below.drew B3.out).trans (hb4.mono B3.out.size)))
  have HL4 : Aside0 (W.heap.size + 0 < w4.heap.size) := ⟨Nat.lt_of_lt_of_le HL3.out hb4.size⟩
  refine hK.out _ _ ((fun i => (hb4.cell (p := ⟨W.heap.size, i, none⟩) (Nat.lt_of_le_of_lt (by first | exact Nat.le_refl _ | exact Nat.le_succ _) HL3.out)).trans (hHeld i))) (fun hHeld => ?_)
  clear hK K
  refine norm_ (a' := ?_) ?_ ?_
  rotate_left
  · show Act.put _ (some 28) _ = _
    simp only [Act.put, List.setIfInBounds_toArray, List.set_cons_zero, List.set_cons_succ, i64_w, i32_w]
    rfl
  refine one_ (i := 6) (N := some 31) #[true, true, true, true, true, true, true, false, false, false, false] rfl rfl (by kernel_rfl) (by decide) (fun K hK => ?_)
  refine goes_ Tryd.func82 (by kernel_rfl) rfl #[.int .i64 4] (by rfl) rfl rfl (by simp only [List.map_toArray, List.map_cons, List.map_nil]; rfl) ?_
  with_reducible refine (HWd.out _).mono ?_
  rintro e w5 ⟨rfl, hb5⟩
  refine ⟨_, rfl, ?_⟩
  have B5 := Aside0.mk (show Below W.heap.size W w5 from (by first | exact B4.out.trans (hb5.mono B4.out.size) | exact (Below.drew B4.out).trans (hb5.mono B4.out.size)))
  have HL5 : Aside0 (W.heap.size + 0 < w5.heap.size) := ⟨Nat.lt_of_lt_of_le HL4.out hb5.size⟩
  refine hK.out _ _ ((fun i => (hb5.cell (p := ⟨W.heap.size, i, none⟩) (Nat.lt_of_le_of_lt (by first | exact Nat.le_refl _ | exact Nat.le_succ _) HL4.out)).trans (hHeld i))) (fun hHeld => ?_)
  clear hK K
  refine norm_ (a' := ?_) ?_ ?_
  rotate_left
  · show Act.put _ (some 31) _ = _
    simp only [Act.put, List.setIfInBounds_toArray, List.set_cons_zero, List.set_cons_succ, i64_w, i32_w]
    rfl
  refine one_ (i := 7) (N := some 32) #[true, true, true, true, true, true, true, true, false, false, false] rfl rfl (by kernel_rfl) (by decide) (fun K hK => ?_)
  refine goes_ Tryd.func75 (by kernel_rfl) rfl #[.string ⟨#[49, 53, 48]⟩, .string ⟨#[56]⟩] (by rfl) rfl rfl (by simp only [List.map_toArray, List.map_cons, List.map_nil]; rfl) ?_
  with_reducible refine (HP5.out _).mono ?_
  rintro e w6 ⟨rfl, hd6⟩
  refine ⟨_, rfl, ?_⟩
  have hb6 := hd6.below
  have B6 := Aside0.mk (show Below W.heap.size W w6 from (by first | exact B5.out.trans (hb6.mono B5.out.size) | exact (Below.drew B5.out).trans (hb6.mono B5.out.size)))
  have HL6 : Aside0 (W.heap.size + 0 < w6.heap.size) := ⟨Nat.lt_of_lt_of_le HL5.out hb6.size⟩
  refine hK.out _ _ ((fun i => (hb6.cell (p := ⟨W.heap.size, i, none⟩) (Nat.lt_of_le_of_lt (by first | exact Nat.le_refl _ | exact Nat.le_succ _) HL5.out)).trans (hHeld i))) (fun hHeld => ?_)
  clear hK K
  refine norm_ (a' := ?_) ?_ ?_
  rotate_left
  · show Act.put _ (some 32) _ = _
    simp only [Act.put, List.setIfInBounds_toArray, List.set_cons_zero, List.set_cons_succ, i64_w, i32_w]
    rfl
  refine pure_ (i := 8) (N := some 33) (v := ?_) (a' := ?_) #[true, true, true, true, true, true, true, true, true, false, false] rfl rfl (by kernel_rfl) (fun _ _ _ h => h) (Or.inl ⟨by rfl, ?_⟩) ?_ ?_
  rotate_left
  · intro w'
    go_simp
    with_reducible rfl
  rotate_left
  · simp only [Act.put, List.setIfInBounds_toArray, List.set_cons_zero, List.set_cons_succ, i64_w, i32_w]
    rfl
  refine pure_ (i := 9) (N := some 34) (v := ?_) (a' := ?_) #[true, true, true, true, true, true, true, true, true, true, false] rfl rfl (by kernel_rfl) (fun _ _ _ h => h) (Or.inl ⟨by rfl, ?_⟩) ?_ ?_
  rotate_left
  · intro w'
    go_simp
    with_reducible rfl
  rotate_left
  · simp only [Act.put, List.setIfInBounds_toArray, List.set_cons_zero, List.set_cons_succ, i64_w, i32_w]
    rfl
  refine pure_ (i := 10) (N := some 3) (v := ?_) (a' := ?_) #[true, true, true, true, true, true, true, true, true, true, true] rfl rfl (by kernel_rfl) (fun _ _ _ h => h) (Or.inl ⟨by rfl, ?_⟩) ?_ ?_
  rotate_left
  · intro w'
    go_simp
    with_reducible rfl
  rotate_left
  · simp only [Act.put, List.setIfInBounds_toArray, List.set_cons_zero, List.set_cons_succ, i64_w, i32_w]
    rfl
  refine done_ (by kernel_rfl) ?_
  have K6 : Aside0 (w6.heap[W.heap.size]? = some (.cells #[.int .i64 4, .int .i64 q, .string nm, .string x, .int .i64 0, .int .i64 0, .string ⟨#[]⟩] 57 (0, 0))) := ⟨(blk_below (w := w5) (blk_below (w := w4) (blk_below (w := w3.drew) K3.out ⟨hb4.os, hb4.tape, hb4.output, hb4.size, hb4.block⟩) ⟨hb5.os, hb5.tape, hb5.output, hb5.size, hb5.block⟩) ⟨hb6.os, hb6.tape, hb6.output, hb6.size, hb6.block⟩)⟩
  (try clear hc)
  have hc := fun i => blk_cell K6.out i
  clear hb4 hb5 hb6
  go_wp2
  go_ret
  exact ⟨by rw [← ES.out]; rfl, B6.out⟩
set_option maxRecDepth 100000 in
set_option maxHeartbeats 8000000 in
theorem repform_5 (q : Int) (nm : ByteArray) (hq : 1 ≤ q ∧ q ≤ 1099511627776) (hi : nm.size ≤ 200) (x : ByteArray) (hx : x.size ≤ 200) (z p : Int) (hz : 1 ≤ z ∧ z ≤ 1099511627776) (hp : 1 ≤ p ∧ p ≤ 1099511627776) (W : World) : Calls Tryd.prog 37 #[.agg #[.int .i64 5, .int .i64 q, .string nm, .string x, .int .i64 z, .int .i64 p, .string ⟨#[]⟩]] W fun e w' => e = .returned (.string ⟨((((repF ⟨5, q, nm, x, z, p, ⟨#[]⟩⟩).map pairF).map fieldL).flatten).toArray⟩) ∧ Below W.heap.size W w' := by
  obtain ⟨p1, e1, z1, l1⟩ := putF_ok ⟨#[51, 53]⟩ ⟨#[56]⟩ (by decide) (by decide)
  obtain ⟨p2, e2, z2, l2⟩ := numF_ok ⟨#[51, 52]⟩ q (by decide) (by omega) (by omega)
  obtain ⟨p3, e3, z3, l3⟩ := putF_ok ⟨#[49, 49]⟩ nm (by decide) (by omega)
  obtain ⟨p4, e4, z4, l4⟩ := putF_ok ⟨#[49, 55]⟩ x (by decide) (by omega)
  obtain ⟨p5, e5, z5, l5⟩ := putF_ok ⟨#[49, 53, 48]⟩ ⟨#[70]⟩ (by decide) (by decide)
  obtain ⟨p6, e6, z6, l6⟩ := numF_ok ⟨#[51, 50]⟩ z (by decide) (by omega) (by omega)
  obtain ⟨p7, e7, z7, l7⟩ := numF_ok ⟨#[51, 49]⟩ p (by decide) (by omega) (by omega)
  have es : ((((p1 ++ p2) ++ p3) ++ (p4 ++ p5)) ++ (p6 ++ p7)) = ⟨((((repF ⟨5, q, nm, x, z, p, ⟨#[]⟩⟩).map pairF).map fieldL).flatten).toArray⟩ := by
    apply ba_ext
    rw [show repF ⟨5, q, nm, x, z, p, ⟨#[]⟩⟩ = [⟨35, ⟨#[56]⟩⟩, ⟨34, digitsB q⟩, ⟨11, nm⟩, ⟨17, x⟩, ⟨150, ⟨#[70]⟩⟩, ⟨32, digitsB z⟩, ⟨31, digitsB p⟩] from rfl]
    simp only [List.map_cons, List.map_nil, pairF, List.flatten_cons, List.flatten_nil, gl35, gl34, gl11, gl17, gl150, gl32, gl31, ByteArray.toList_data_append, l1, l2, l3, l4, l5, l6, l7]
    simp
  have HP1 : Aside0 (∀ X, Calls Tryd.prog 75 #[.string ⟨#[51, 53]⟩, .string ⟨#[56]⟩] X fun e w' => e = .returned (.string p1) ∧ Drawn0 X w') := ⟨fun X => spigotref12_Put.calls _ _ _ X e1⟩
  have HP2 : Aside0 (∀ X, Calls Tryd.prog 76 #[.string ⟨#[51, 52]⟩, .int .i64 q] X fun e w' => e = .returned (.string p2) ∧ Below X.heap.size X w') := ⟨fun X => spigotref12_Number.calls _ _ _ X e2⟩
  have HP3 : Aside0 (∀ X, Calls Tryd.prog 75 #[.string ⟨#[49, 49]⟩, .string nm] X fun e w' => e = .returned (.string p3) ∧ Drawn0 X w') := ⟨fun X => spigotref12_Put.calls _ _ _ X e3⟩
  have HP4 : Aside0 (∀ X, Calls Tryd.prog 75 #[.string ⟨#[49, 55]⟩, .string x] X fun e w' => e = .returned (.string p4) ∧ Drawn0 X w') := ⟨fun X => spigotref12_Put.calls _ _ _ X e4⟩
  have HP5 : Aside0 (∀ X, Calls Tryd.prog 75 #[.string ⟨#[49, 53, 48]⟩, .string ⟨#[70]⟩] X fun e w' => e = .returned (.string p5) ∧ Drawn0 X w') := ⟨fun X => spigotref12_Put.calls _ _ _ X e5⟩
  have HP6 : Aside0 (∀ X, Calls Tryd.prog 76 #[.string ⟨#[51, 50]⟩, .int .i64 z] X fun e w' => e = .returned (.string p6) ∧ Below X.heap.size X w') := ⟨fun X => spigotref12_Number.calls _ _ _ X e6⟩
  have HP7 : Aside0 (∀ X, Calls Tryd.prog 76 #[.string ⟨#[51, 49]⟩, .int .i64 p] X fun e w' => e = .returned (.string p7) ∧ Below X.heap.size X w') := ⟨fun X => spigotref12_Number.calls _ _ _ X e7⟩
  have ES := Aside0.mk es
  have HWd : Aside0 (∀ X, Calls Tryd.prog 82 #[.int .i64 5] X fun e w' => e = .returned (.string ⟨#[70]⟩) ∧ Below X.heap.size X w') := ⟨fun X => ref14_word_walk 5 (by decide) X⟩
  have s1 : (9223372036854775807 < p1.size + p2.size) = False := eq_false (Nat.not_lt.2 (by (try simp only [ByteArray.size_append]); omega))
  have s2 : (9223372036854775807 < p1.size + p2.size + p3.size) = False := eq_false (Nat.not_lt.2 (by (try simp only [ByteArray.size_append]); omega))
  have s3 : (9223372036854775807 < ((p1 ++ p2)).size + (p3).size) = False := eq_false (Nat.not_lt.2 (by (try simp only [ByteArray.size_append]); omega))
  have s4 : (9223372036854775807 < p4.size + p5.size) = False := eq_false (Nat.not_lt.2 (by (try simp only [ByteArray.size_append]); omega))
  have s5 : (9223372036854775807 < (((p1 ++ p2) ++ p3)).size + ((p4 ++ p5)).size) = False := eq_false (Nat.not_lt.2 (by (try simp only [ByteArray.size_append]); omega))
  have s6 : (9223372036854775807 < p1.size + p2.size + p3.size + (p4.size + p5.size)) = False := eq_false (Nat.not_lt.2 (by (try simp only [ByteArray.size_append]); omega))
  have s7 : (9223372036854775807 < p6.size + p7.size) = False := eq_false (Nat.not_lt.2 (by (try simp only [ByteArray.size_append]); omega))
  have s8 : (9223372036854775807 < ((((p1 ++ p2) ++ p3) ++ (p4 ++ p5))).size + ((p6 ++ p7)).size) = False := eq_false (Nat.not_lt.2 (by (try simp only [ByteArray.size_append]); omega))
  have s9 : (9223372036854775807 < p1.size + p2.size + p3.size + (p4.size + p5.size) + (p6.size + p7.size)) = False := eq_false (Nat.not_lt.2 (by (try simp only [ByteArray.size_append]); omega))
  clear es e1 z1 l1 e2 z2 l2 e3 z3 l3 e4 z4 l4 e5 z5 l5 e6 z6 l6 e7 z7 l7
  have HS1 : (W.alloc (.cells #[.int .i64 5, .int .i64 q, .string nm, .string x, .int .i64 z, .int .i64 p, .string ⟨#[]⟩] 57)).heap.size = W.heap.size + 1 := World.size_alloc _ _
  have K0 := Aside0.mk (blk_new W (.cells #[.int .i64 5, .int .i64 q, .string nm, .string x, .int .i64 z, .int .i64 p, .string ⟨#[]⟩] 57))
  have B0 : Aside0 (Below W.heap.size W (W.alloc (.cells #[.int .i64 5, .int .i64 q, .string nm, .string x, .int .i64 z, .int .i64 p, .string ⟨#[]⟩] 57))) := ⟨(Below.refl _ _).alloc (Nat.le_refl _) _⟩
  have HL0 : Aside0 (W.heap.size + 0 < (W.alloc (.cells #[.int .i64 5, .int .i64 q, .string nm, .string x, .int .i64 z, .int .i64 p, .string ⟨#[]⟩] 57)).heap.size) := ⟨by rw [HS1]; omega⟩
  clear HS1
  go_enter Tryd.func37, Tryd.ntmps37
  go_wp2
  refine start_ (n := 10) (S := fun w' => (∀ i, w'.cell? ⟨W.heap.size, i, none⟩ = (#[.int .i64 5, .int .i64 q, .string nm, .string x, .int .i64 z, .int .i64 p, .string ⟨#[]⟩] : Array Value)[i]?)) (ds := []) #[false, false, false, false, false, false, false, false, false, false] (by kernel_rfl) rfl rfl ((fun i => blk_cell (w := (W.alloc (.cells #[.int .i64 5, .int .i64 q, .string nm, .string x, .int .i64 z, .int .i64 p, .string ⟨#[]⟩] 57)).drew) K0.out i)) (fun hHeld => ?_)
  refine pure_ (i := 1) (N := some 17) (v := ?_) (a' := ?_) #[false, true, false, false, false, false, false, false, false, false] rfl rfl (by kernel_rfl) (fun _ _ _ h => h) (Or.inl ⟨by rfl, ?_⟩) ?_ ?_
  rotate_left
  · intro w'
    go_simp
    with_reducible rfl
  rotate_left
  · simp only [Act.put, List.setIfInBounds_toArray, List.set_cons_zero, List.set_cons_succ, i64_w, i32_w]
    rfl
  refine pure_ (i := 5) (N := some 21) (v := ?_) (a' := ?_) #[false, true, false, false, false, true, false, false, false, false] rfl rfl (by kernel_rfl) (fun _ _ _ h => h) (Or.inl ⟨by rfl, ?_⟩) ?_ ?_
  rotate_left
  · intro w'
    go_simp
    with_reducible rfl
  rotate_left
  · simp only [Act.put, List.setIfInBounds_toArray, List.set_cons_zero, List.set_cons_succ, i64_w, i32_w]
    rfl
  refine take_ (i := 2) (N := some 18) (v := ?_) (a' := ?_) #[false, true, true, false, false, true, false, false, false, false] rfl rfl (by kernel_rfl) (fun _ _ _ h => h) (Or.inl ⟨by rfl, ?_⟩) hHeld ?_ ?_
  rotate_left
  · intro w' s0
    go_simp
    with_reducible rfl
  rotate_left
  · simp only [Act.put, List.setIfInBounds_toArray, List.set_cons_zero, List.set_cons_succ, i64_w, i32_w]
    rfl
  refine take_ (i := 6) (N := some 22) (v := ?_) (a' := ?_) #[false, true, true, false, false, true, true, false, false, false] rfl rfl (by kernel_rfl) (fun _ _ _ h => h) (Or.inl ⟨by rfl, ?_⟩) hHeld ?_ ?_
  rotate_left
  · intro w' s0
    go_simp
    with_reducible rfl
  rotate_left
  · simp only [Act.put, List.setIfInBounds_toArray, List.set_cons_zero, List.set_cons_succ, i64_w, i32_w]
    rfl
  refine one_ (i := 0) (N := some 16) #[true, true, true, false, false, true, true, false, false, false] rfl rfl (by kernel_rfl) (by decide) (fun K hK => ?_)
  refine goes_ Tryd.func75 (by kernel_rfl) rfl #[.string ⟨#[51, 53]⟩, .string ⟨#[56]⟩] (by rfl) rfl rfl (by simp only [List.map_toArray, List.map_cons, List.map_nil]; rfl) ?_
  with_reducible refine (HP1.out _).mono ?_
  rintro e w1 ⟨rfl, hd1⟩
  refine ⟨_, rfl, ?_⟩
  have hb1 := hd1.below
  have B1 := Aside0.mk (show Below W.heap.size W w1 from (by first | exact B0.out.trans (hb1.mono B0.out.size) | exact (Below.drew B0.out).trans (hb1.mono B0.out.size)))
  have HL1 : Aside0 (W.heap.size + 0 < w1.heap.size) := ⟨Nat.lt_of_lt_of_le HL0.out hb1.size⟩
  refine hK.out _ _ ((fun i => (hb1.cell (p := ⟨W.heap.size, i, none⟩) (Nat.lt_of_le_of_lt (by first | exact Nat.le_refl _ | exact Nat.le_succ _) HL0.out)).trans (hHeld i))) (fun hHeld => ?_)
  clear hK K
  refine norm_ (a' := ?_) ?_ ?_
  rotate_left
  · show Act.put _ (some 16) _ = _
    simp only [Act.put, List.setIfInBounds_toArray, List.set_cons_zero, List.set_cons_succ, i64_w, i32_w]
    rfl
  refine one_ (i := 3) (N := some 19) #[true, true, true, true, false, true, true, false, false, false] rfl rfl (by kernel_rfl) (by decide) (fun K hK => ?_)
  refine goes_ Tryd.func76 (by kernel_rfl) rfl #[.string ⟨#[51, 52]⟩, .int .i64 q] (by rfl) rfl rfl (by simp only [List.map_toArray, List.map_cons, List.map_nil]; rfl) ?_
  with_reducible refine (HP2.out _).mono ?_
  rintro e w2 ⟨rfl, hb2⟩
  refine ⟨_, rfl, ?_⟩
  have B2 := Aside0.mk (show Below W.heap.size W w2 from (by first | exact B1.out.trans (hb2.mono B1.out.size) | exact (Below.drew B1.out).trans (hb2.mono B1.out.size)))
  have HL2 : Aside0 (W.heap.size + 0 < w2.heap.size) := ⟨Nat.lt_of_lt_of_le HL1.out hb2.size⟩
  refine hK.out _ _ ((fun i => (hb2.cell (p := ⟨W.heap.size, i, none⟩) (Nat.lt_of_le_of_lt (by first | exact Nat.le_refl _ | exact Nat.le_succ _) HL1.out)).trans (hHeld i))) (fun hHeld => ?_)
  clear hK K
  refine norm_ (a' := ?_) ?_ ?_
  rotate_left
  · show Act.put _ (some 19) _ = _
    simp only [Act.put, List.setIfInBounds_toArray, List.set_cons_zero, List.set_cons_succ, i64_w, i32_w]
    rfl
  refine pure_ (i := 4) (N := some 20) (v := ?_) (a' := ?_) #[true, true, true, true, true, true, true, false, false, false] rfl rfl (by kernel_rfl) (fun _ _ _ h => h) (Or.inl ⟨by rfl, ?_⟩) ?_ ?_
  rotate_left
  · intro w'
    go_simp
    with_reducible rfl
  rotate_left
  · simp only [Act.put, List.setIfInBounds_toArray, List.set_cons_zero, List.set_cons_succ, i64_w, i32_w]
    rfl
  refine one_ (i := 7) (N := some 23) #[true, true, true, true, true, true, true, true, false, false] rfl rfl (by kernel_rfl) (by decide) (fun K hK => ?_)
  refine goes_ Tryd.func75 (by kernel_rfl) rfl #[.string ⟨#[49, 49]⟩, .string nm] (by rfl) rfl rfl (by simp only [List.map_toArray, List.map_cons, List.map_nil]; rfl) ?_
  with_reducible refine (HP3.out _).mono ?_
  rintro e w3 ⟨rfl, hd3⟩
  refine ⟨_, rfl, ?_⟩
  have hb3 := hd3.below
  have B3 := Aside0.mk (show Below W.heap.size W w3 from (by first | exact B2.out.trans (hb3.mono B2.out.size) | exact (Below.drew B2.out).trans (hb3.mono B2.out.size)))
  have HL3 : Aside0 (W.heap.size + 0 < w3.heap.size) := ⟨Nat.lt_of_lt_of_le HL2.out hb3.size⟩
  refine hK.out _ _ ((fun i => (hb3.cell (p := ⟨W.heap.size, i, none⟩) (Nat.lt_of_le_of_lt (by first | exact Nat.le_refl _ | exact Nat.le_succ _) HL2.out)).trans (hHeld i))) (fun hHeld => ?_)
  clear hK K
  refine norm_ (a' := ?_) ?_ ?_
  rotate_left
  · show Act.put _ (some 23) _ = _
    simp only [Act.put, List.setIfInBounds_toArray, List.set_cons_zero, List.set_cons_succ, i64_w, i32_w]
    rfl
  refine pure_ (i := 8) (N := some 24) (v := ?_) (a' := ?_) #[true, true, true, true, true, true, true, true, true, false] rfl rfl (by kernel_rfl) (fun _ _ _ h => h) (Or.inl ⟨by rfl, ?_⟩) ?_ ?_
  rotate_left
  · intro w'
    go_simp
    with_reducible rfl
  rotate_left
  · simp only [Act.put, List.setIfInBounds_toArray, List.set_cons_zero, List.set_cons_succ, i64_w, i32_w]
    rfl
  refine pure_ (i := 9) (N := some 3) (v := ?_) (a' := ?_) #[true, true, true, true, true, true, true, true, true, true] rfl rfl (by kernel_rfl) (fun _ _ _ h => h) (Or.inl ⟨by rfl, ?_⟩) ?_ ?_
  rotate_left
  · intro w'
    go_simp
    with_reducible rfl
  rotate_left
  · simp only [Act.put, List.setIfInBounds_toArray, List.set_cons_zero, List.set_cons_succ, i64_w, i32_w]
    rfl
  refine done_ (by kernel_rfl) ?_
  have K3 : Aside0 (w3.heap[W.heap.size]? = some (.cells #[.int .i64 5, .int .i64 q, .string nm, .string x, .int .i64 z, .int .i64 p, .string ⟨#[]⟩] 57 (0, 0))) := ⟨(blk_below (w := w2) (blk_below (w := w1) (blk_below (w := (W.alloc (.cells #[.int .i64 5, .int .i64 q, .string nm, .string x, .int .i64 z, .int .i64 p, .string ⟨#[]⟩] 57)).drew) K0.out ⟨hb1.os, hb1.tape, hb1.output, hb1.size, hb1.block⟩) ⟨hb2.os, hb2.tape, hb2.output, hb2.size, hb2.block⟩) ⟨hb3.os, hb3.tape, hb3.output, hb3.size, hb3.block⟩)⟩
  (try clear hc)
  have hc := fun i => blk_cell K3.out i
  clear hb1 hb2 hb3
  go_wp2
  refine start_ (n := 11) (S := fun w' => (∀ i, w'.cell? ⟨W.heap.size, i, none⟩ = (#[.int .i64 5, .int .i64 q, .string nm, .string x, .int .i64 z, .int .i64 p, .string ⟨#[]⟩] : Array Value)[i]?)) (ds := []) #[false, false, false, false, false, false, false, false, false, false, false] (by kernel_rfl) rfl rfl ((fun i => blk_cell (w := w3.drew) K3.out i)) (fun hHeld => ?_)
  refine pure_ (i := 0) (N := some 25) (v := ?_) (a' := ?_) #[true, false, false, false, false, false, false, false, false, false, false] rfl rfl (by kernel_rfl) (fun _ _ _ h => h) (Or.inl ⟨by rfl, ?_⟩) ?_ ?_
  rotate_left
  · intro w'
    go_simp
    with_reducible rfl
  rotate_left
  · simp only [Act.put, List.setIfInBounds_toArray, List.set_cons_zero, List.set_cons_succ, i64_w, i32_w]
    rfl
  refine pure_ (i := 1) (N := some 26) (v := ?_) (a' := ?_) #[true, true, false, false, false, false, false, false, false, false, false] rfl rfl (by kernel_rfl) (fun _ _ _ h => h) (Or.inl ⟨by rfl, ?_⟩) ?_ ?_
  rotate_left
  · intro w'
    go_simp
    with_reducible rfl
  rotate_left
  · simp only [Act.put, List.setIfInBounds_toArray, List.set_cons_zero, List.set_cons_succ, i64_w, i32_w]
    rfl
  refine pure_ (i := 4) (N := some 29) (v := ?_) (a' := ?_) #[true, true, false, false, true, false, false, false, false, false, false] rfl rfl (by kernel_rfl) (fun _ _ _ h => h) (Or.inl ⟨by rfl, ?_⟩) ?_ ?_
  rotate_left
  · intro w'
    go_simp
    with_reducible rfl
  rotate_left
  · simp only [Act.put, List.setIfInBounds_toArray, List.set_cons_zero, List.set_cons_succ, i64_w, i32_w]
    rfl
  refine take_ (i := 2) (N := some 27) (v := ?_) (a' := ?_) #[true, true, true, false, true, false, false, false, false, false, false] rfl rfl (by kernel_rfl) (fun _ _ _ h => h) (Or.inl ⟨by rfl, ?_⟩) hHeld ?_ ?_
  rotate_left
  · intro w' s0
    go_simp
    with_reducible rfl
  rotate_left
  · simp only [Act.put, List.setIfInBounds_toArray, List.set_cons_zero, List.set_cons_succ, i64_w, i32_w]
    rfl
  refine take_ (i := 5) (N := some 30) (v := ?_) (a' := ?_) #[true, true, true, false, true, true, false, false, false, false, false] rfl rfl (by kernel_rfl) (fun _ _ _ h => h) (Or.inl ⟨by rfl, ?_⟩) hHeld ?_ ?_
  rotate_left
  · intro w' s0
    go_simp
    with_reducible rfl
  rotate_left
  · simp only [Act.put, List.setIfInBounds_toArray, List.set_cons_zero, List.set_cons_succ, i64_w, i32_w]
    rfl
  refine one_ (i := 3) (N := some 28) #[true, true, true, true, true, true, false, false, false, false, false] rfl rfl (by kernel_rfl) (by decide) (fun K hK => ?_)
  refine goes_ Tryd.func75 (by kernel_rfl) rfl #[.string ⟨#[49, 55]⟩, .string x] (by rfl) rfl rfl (by simp only [List.map_toArray, List.map_cons, List.map_nil]; rfl) ?_
  with_reducible refine (HP4.out _).mono ?_
  rintro e w4 ⟨rfl, hd4⟩
  refine ⟨_, rfl, ?_⟩
  have hb4 := hd4.below
  have B4 := Aside0.mk (show Below W.heap.size W w4 from (by first | exact B3.out.trans (hb4.mono B3.out.size) | exact (Below.drew B3.out).trans (hb4.mono B3.out.size)))
  have HL4 : Aside0 (W.heap.size + 0 < w4.heap.size) := ⟨Nat.lt_of_lt_of_le HL3.out hb4.size⟩
  refine hK.out _ _ ((fun i => (hb4.cell (p := ⟨W.heap.size, i, none⟩) (Nat.lt_of_le_of_lt (by first | exact Nat.le_refl _ | exact Nat.le_succ _) HL3.out)).trans (hHeld i))) (fun hHeld => ?_)
  clear hK K
  refine norm_ (a' := ?_) ?_ ?_
  rotate_left
  · show Act.put _ (some 28) _ = _
    simp only [Act.put, List.setIfInBounds_toArray, List.set_cons_zero, List.set_cons_succ, i64_w, i32_w]
    rfl
  refine one_ (i := 6) (N := some 31) #[true, true, true, true, true, true, true, false, false, false, false] rfl rfl (by kernel_rfl) (by decide) (fun K hK => ?_)
  refine goes_ Tryd.func82 (by kernel_rfl) rfl #[.int .i64 5] (by rfl) rfl rfl (by simp only [List.map_toArray, List.map_cons, List.map_nil]; rfl) ?_
  with_reducible refine (HWd.out _).mono ?_
  rintro e w5 ⟨rfl, hb5⟩
  refine ⟨_, rfl, ?_⟩
  have B5 := Aside0.mk (show Below W.heap.size W w5 from (by first | exact B4.out.trans (hb5.mono B4.out.size) | exact (Below.drew B4.out).trans (hb5.mono B4.out.size)))
  have HL5 : Aside0 (W.heap.size + 0 < w5.heap.size) := ⟨Nat.lt_of_lt_of_le HL4.out hb5.size⟩
  refine hK.out _ _ ((fun i => (hb5.cell (p := ⟨W.heap.size, i, none⟩) (Nat.lt_of_le_of_lt (by first | exact Nat.le_refl _ | exact Nat.le_succ _) HL4.out)).trans (hHeld i))) (fun hHeld => ?_)
  clear hK K
  refine norm_ (a' := ?_) ?_ ?_
  rotate_left
  · show Act.put _ (some 31) _ = _
    simp only [Act.put, List.setIfInBounds_toArray, List.set_cons_zero, List.set_cons_succ, i64_w, i32_w]
    rfl
  refine one_ (i := 7) (N := some 32) #[true, true, true, true, true, true, true, true, false, false, false] rfl rfl (by kernel_rfl) (by decide) (fun K hK => ?_)
  refine goes_ Tryd.func75 (by kernel_rfl) rfl #[.string ⟨#[49, 53, 48]⟩, .string ⟨#[70]⟩] (by rfl) rfl rfl (by simp only [List.map_toArray, List.map_cons, List.map_nil]; rfl) ?_
  with_reducible refine (HP5.out _).mono ?_
  rintro e w6 ⟨rfl, hd6⟩
  refine ⟨_, rfl, ?_⟩
  have hb6 := hd6.below
  have B6 := Aside0.mk (show Below W.heap.size W w6 from (by first | exact B5.out.trans (hb6.mono B5.out.size) | exact (Below.drew B5.out).trans (hb6.mono B5.out.size)))
  have HL6 : Aside0 (W.heap.size + 0 < w6.heap.size) := ⟨Nat.lt_of_lt_of_le HL5.out hb6.size⟩
  refine hK.out _ _ ((fun i => (hb6.cell (p := ⟨W.heap.size, i, none⟩) (Nat.lt_of_le_of_lt (by first | exact Nat.le_refl _ | exact Nat.le_succ _) HL5.out)).trans (hHeld i))) (fun hHeld => ?_)
  clear hK K
  refine norm_ (a' := ?_) ?_ ?_
  rotate_left
  · show Act.put _ (some 32) _ = _
    simp only [Act.put, List.setIfInBounds_toArray, List.set_cons_zero, List.set_cons_succ, i64_w, i32_w]
    rfl
  refine pure_ (i := 8) (N := some 33) (v := ?_) (a' := ?_) #[true, true, true, true, true, true, true, true, true, false, false] rfl rfl (by kernel_rfl) (fun _ _ _ h => h) (Or.inl ⟨by rfl, ?_⟩) ?_ ?_
  rotate_left
  · intro w'
    go_simp
    with_reducible rfl
  rotate_left
  · simp only [Act.put, List.setIfInBounds_toArray, List.set_cons_zero, List.set_cons_succ, i64_w, i32_w]
    rfl
  refine pure_ (i := 9) (N := some 34) (v := ?_) (a' := ?_) #[true, true, true, true, true, true, true, true, true, true, false] rfl rfl (by kernel_rfl) (fun _ _ _ h => h) (Or.inl ⟨by rfl, ?_⟩) ?_ ?_
  rotate_left
  · intro w'
    go_simp
    with_reducible rfl
  rotate_left
  · simp only [Act.put, List.setIfInBounds_toArray, List.set_cons_zero, List.set_cons_succ, i64_w, i32_w]
    rfl
  refine pure_ (i := 10) (N := some 3) (v := ?_) (a' := ?_) #[true, true, true, true, true, true, true, true, true, true, true] rfl rfl (by kernel_rfl) (fun _ _ _ h => h) (Or.inl ⟨by rfl, ?_⟩) ?_ ?_
  rotate_left
  · intro w'
    go_simp
    with_reducible rfl
  rotate_left
  · simp only [Act.put, List.setIfInBounds_toArray, List.set_cons_zero, List.set_cons_succ, i64_w, i32_w]
    rfl
  refine done_ (by kernel_rfl) ?_
  have K6 : Aside0 (w6.heap[W.heap.size]? = some (.cells #[.int .i64 5, .int .i64 q, .string nm, .string x, .int .i64 z, .int .i64 p, .string ⟨#[]⟩] 57 (0, 0))) := ⟨(blk_below (w := w5) (blk_below (w := w4) (blk_below (w := w3.drew) K3.out ⟨hb4.os, hb4.tape, hb4.output, hb4.size, hb4.block⟩) ⟨hb5.os, hb5.tape, hb5.output, hb5.size, hb5.block⟩) ⟨hb6.os, hb6.tape, hb6.output, hb6.size, hb6.block⟩)⟩
  (try clear hc)
  have hc := fun i => blk_cell K6.out i
  clear hb4 hb5 hb6
  go_wp2
  refine start_ (n := 10) (S := fun w' => (∀ i, w'.cell? ⟨W.heap.size, i, none⟩ = (#[.int .i64 5, .int .i64 q, .string nm, .string x, .int .i64 z, .int .i64 p, .string ⟨#[]⟩] : Array Value)[i]?)) (ds := []) #[false, false, false, false, false, false, false, false, false, false] (by kernel_rfl) rfl rfl ((fun i => blk_cell (w := w6.drew) K6.out i)) (fun hHeld => ?_)
  refine pure_ (i := 0) (N := some 38) (v := ?_) (a' := ?_) #[true, false, false, false, false, false, false, false, false, false] rfl rfl (by kernel_rfl) (fun _ _ _ h => h) (Or.inl ⟨by rfl, ?_⟩) ?_ ?_
  rotate_left
  · intro w'
    go_simp
    with_reducible rfl
  rotate_left
  · simp only [Act.put, List.setIfInBounds_toArray, List.set_cons_zero, List.set_cons_succ, i64_w, i32_w]
    rfl
  refine pure_ (i := 1) (N := some 39) (v := ?_) (a' := ?_) #[true, true, false, false, false, false, false, false, false, false] rfl rfl (by kernel_rfl) (fun _ _ _ h => h) (Or.inl ⟨by rfl, ?_⟩) ?_ ?_
  rotate_left
  · intro w'
    go_simp
    with_reducible rfl
  rotate_left
  · simp only [Act.put, List.setIfInBounds_toArray, List.set_cons_zero, List.set_cons_succ, i64_w, i32_w]
    rfl
  refine pure_ (i := 4) (N := some 42) (v := ?_) (a' := ?_) #[true, true, false, false, true, false, false, false, false, false] rfl rfl (by kernel_rfl) (fun _ _ _ h => h) (Or.inl ⟨by rfl, ?_⟩) ?_ ?_
  rotate_left
  · intro w'
    go_simp
    with_reducible rfl
  rotate_left
  · simp only [Act.put, List.setIfInBounds_toArray, List.set_cons_zero, List.set_cons_succ, i64_w, i32_w]
    rfl
  refine take_ (i := 2) (N := some 40) (v := ?_) (a' := ?_) #[true, true, true, false, true, false, false, false, false, false] rfl rfl (by kernel_rfl) (fun _ _ _ h => h) (Or.inl ⟨by rfl, ?_⟩) hHeld ?_ ?_
  rotate_left
  · intro w' s0
    go_simp
    with_reducible rfl
  rotate_left
  · simp only [Act.put, List.setIfInBounds_toArray, List.set_cons_zero, List.set_cons_succ, i64_w, i32_w]
    rfl
  refine take_ (i := 5) (N := some 43) (v := ?_) (a' := ?_) #[true, true, true, false, true, true, false, false, false, false] rfl rfl (by kernel_rfl) (fun _ _ _ h => h) (Or.inl ⟨by rfl, ?_⟩) hHeld ?_ ?_
  rotate_left
  · intro w' s0
    go_simp
    with_reducible rfl
  rotate_left
  · simp only [Act.put, List.setIfInBounds_toArray, List.set_cons_zero, List.set_cons_succ, i64_w, i32_w]
    rfl
  refine one_ (i := 3) (N := some 41) #[true, true, true, true, true, true, false, false, false, false] rfl rfl (by kernel_rfl) (by decide) (fun K hK => ?_)
  refine goes_ Tryd.func76 (by kernel_rfl) rfl #[.string ⟨#[51, 50]⟩, .int .i64 z] (by rfl) rfl rfl (by simp only [List.map_toArray, List.map_cons, List.map_nil]; rfl) ?_
  with_reducible refine (HP6.out _).mono ?_
  rintro e w7 ⟨rfl, hb7⟩
  refine ⟨_, rfl, ?_⟩
  have B7 := Aside0.mk (show Below W.heap.size W w7 from (by first | exact B6.out.trans (hb7.mono B6.out.size) | exact (Below.drew B6.out).trans (hb7.mono B6.out.size)))
  have HL7 : Aside0 (W.heap.size + 0 < w7.heap.size) := ⟨Nat.lt_of_lt_of_le HL6.out hb7.size⟩
  refine hK.out _ _ ((fun i => (hb7.cell (p := ⟨W.heap.size, i, none⟩) (Nat.lt_of_le_of_lt (by first | exact Nat.le_refl _ | exact Nat.le_succ _) HL6.out)).trans (hHeld i))) (fun hHeld => ?_)
  clear hK K
  refine norm_ (a' := ?_) ?_ ?_
  rotate_left
  · show Act.put _ (some 41) _ = _
    simp only [Act.put, List.setIfInBounds_toArray, List.set_cons_zero, List.set_cons_succ, i64_w, i32_w]
    rfl
  refine one_ (i := 6) (N := some 44) #[true, true, true, true, true, true, true, false, false, false] rfl rfl (by kernel_rfl) (by decide) (fun K hK => ?_)
  refine goes_ Tryd.func76 (by kernel_rfl) rfl #[.string ⟨#[51, 49]⟩, .int .i64 p] (by rfl) rfl rfl (by simp only [List.map_toArray, List.map_cons, List.map_nil]; rfl) ?_
  with_reducible refine (HP7.out _).mono ?_
  rintro e w8 ⟨rfl, hb8⟩
  refine ⟨_, rfl, ?_⟩
  have B8 := Aside0.mk (show Below W.heap.size W w8 from (by first | exact B7.out.trans (hb8.mono B7.out.size) | exact (Below.drew B7.out).trans (hb8.mono B7.out.size)))
  have HL8 : Aside0 (W.heap.size + 0 < w8.heap.size) := ⟨Nat.lt_of_lt_of_le HL7.out hb8.size⟩
  refine hK.out _ _ ((fun i => (hb8.cell (p := ⟨W.heap.size, i, none⟩) (Nat.lt_of_le_of_lt (by first | exact Nat.le_refl _ | exact Nat.le_succ _) HL7.out)).trans (hHeld i))) (fun hHeld => ?_)
  clear hK K
  refine norm_ (a' := ?_) ?_ ?_
  rotate_left
  · show Act.put _ (some 44) _ = _
    simp only [Act.put, List.setIfInBounds_toArray, List.set_cons_zero, List.set_cons_succ, i64_w, i32_w]
    rfl
  refine pure_ (i := 7) (N := some 45) (v := ?_) (a' := ?_) #[true, true, true, true, true, true, true, true, false, false] rfl rfl (by kernel_rfl) (fun _ _ _ h => h) (Or.inl ⟨by rfl, ?_⟩) ?_ ?_
  rotate_left
  · intro w'
    go_simp
    with_reducible rfl
  rotate_left
  · simp only [Act.put, List.setIfInBounds_toArray, List.set_cons_zero, List.set_cons_succ, i64_w, i32_w]
    rfl
  refine pure_ (i := 8) (N := some 46) (v := ?_) (a' := ?_) #[true, true, true, true, true, true, true, true, true, false] rfl rfl (by kernel_rfl) (fun _ _ _ h => h) (Or.inl ⟨by rfl, ?_⟩) ?_ ?_
  rotate_left
  · intro w'
    go_simp
    with_reducible rfl
  rotate_left
  · simp only [Act.put, List.setIfInBounds_toArray, List.set_cons_zero, List.set_cons_succ, i64_w, i32_w]
    rfl
  refine pure_ (i := 9) (N := some 3) (v := ?_) (a' := ?_) #[true, true, true, true, true, true, true, true, true, true] rfl rfl (by kernel_rfl) (fun _ _ _ h => h) (Or.inl ⟨by rfl, ?_⟩) ?_ ?_
  rotate_left
  · intro w'
    go_simp
    with_reducible rfl
  rotate_left
  · simp only [Act.put, List.setIfInBounds_toArray, List.set_cons_zero, List.set_cons_succ, i64_w, i32_w]
    rfl
  refine done_ (by kernel_rfl) ?_
  have K8 : Aside0 (w8.heap[W.heap.size]? = some (.cells #[.int .i64 5, .int .i64 q, .string nm, .string x, .int .i64 z, .int .i64 p, .string ⟨#[]⟩] 57 (0, 0))) := ⟨(blk_below (w := w7) (blk_below (w := w6.drew) K6.out ⟨hb7.os, hb7.tape, hb7.output, hb7.size, hb7.block⟩) ⟨hb8.os, hb8.tape, hb8.output, hb8.size, hb8.block⟩)⟩
  (try clear hc)
  have hc := fun i => blk_cell K8.out i
  clear hb7 hb8
  go_wp2
  go_ret
  exact ⟨by rw [← ES.out]; rfl, B8.out⟩
set_option maxRecDepth 100000 in
set_option maxHeartbeats 8000000 in
theorem repform_6 (q : Int) (nm : ByteArray) (hq : 1 ≤ q ∧ q ≤ 1099511627776) (hi : nm.size ≤ 200) (x : ByteArray) (hx : x.size ≤ 200) (r : ByteArray) (hr : r.size ≤ 200) (W : World) : Calls Tryd.prog 37 #[.agg #[.int .i64 6, .int .i64 q, .string nm, .string x, .int .i64 0, .int .i64 0, .string r]] W fun e w' => e = .returned (.string ⟨((((repF ⟨6, q, nm, x, 0, 0, r⟩).map pairF).map fieldL).flatten).toArray⟩) ∧ Below W.heap.size W w' := by
  obtain ⟨p1, e1, z1, l1⟩ := putF_ok ⟨#[51, 53]⟩ ⟨#[56]⟩ (by decide) (by decide)
  obtain ⟨p2, e2, z2, l2⟩ := numF_ok ⟨#[51, 52]⟩ q (by decide) (by omega) (by omega)
  obtain ⟨p3, e3, z3, l3⟩ := putF_ok ⟨#[49, 49]⟩ nm (by decide) (by omega)
  obtain ⟨p4, e4, z4, l4⟩ := putF_ok ⟨#[49, 55]⟩ x (by decide) (by omega)
  obtain ⟨p5, e5, z5, l5⟩ := putF_ok ⟨#[49, 53, 48]⟩ ⟨#[72]⟩ (by decide) (by decide)
  obtain ⟨p6, e6, z6, l6⟩ := putF_ok ⟨#[49, 57]⟩ r (by decide) (by omega)
  have es : ((((p1 ++ p2) ++ p3) ++ (p4 ++ p5)) ++ p6) = ⟨((((repF ⟨6, q, nm, x, 0, 0, r⟩).map pairF).map fieldL).flatten).toArray⟩ := by
    apply ba_ext
    rw [show repF ⟨6, q, nm, x, 0, 0, r⟩ = [⟨35, ⟨#[56]⟩⟩, ⟨34, digitsB q⟩, ⟨11, nm⟩, ⟨17, x⟩, ⟨150, ⟨#[72]⟩⟩, ⟨19, r⟩] from rfl]
    simp only [List.map_cons, List.map_nil, pairF, List.flatten_cons, List.flatten_nil, gl35, gl34, gl11, gl17, gl150, gl19, ByteArray.toList_data_append, l1, l2, l3, l4, l5, l6]
    simp
  have HP1 : Aside0 (∀ X, Calls Tryd.prog 75 #[.string ⟨#[51, 53]⟩, .string ⟨#[56]⟩] X fun e w' => e = .returned (.string p1) ∧ Drawn0 X w') := ⟨fun X => spigotref12_Put.calls _ _ _ X e1⟩
  have HP2 : Aside0 (∀ X, Calls Tryd.prog 76 #[.string ⟨#[51, 52]⟩, .int .i64 q] X fun e w' => e = .returned (.string p2) ∧ Below X.heap.size X w') := ⟨fun X => spigotref12_Number.calls _ _ _ X e2⟩
  have HP3 : Aside0 (∀ X, Calls Tryd.prog 75 #[.string ⟨#[49, 49]⟩, .string nm] X fun e w' => e = .returned (.string p3) ∧ Drawn0 X w') := ⟨fun X => spigotref12_Put.calls _ _ _ X e3⟩
  have HP4 : Aside0 (∀ X, Calls Tryd.prog 75 #[.string ⟨#[49, 55]⟩, .string x] X fun e w' => e = .returned (.string p4) ∧ Drawn0 X w') := ⟨fun X => spigotref12_Put.calls _ _ _ X e4⟩
  have HP5 : Aside0 (∀ X, Calls Tryd.prog 75 #[.string ⟨#[49, 53, 48]⟩, .string ⟨#[72]⟩] X fun e w' => e = .returned (.string p5) ∧ Drawn0 X w') := ⟨fun X => spigotref12_Put.calls _ _ _ X e5⟩
  have HP6 : Aside0 (∀ X, Calls Tryd.prog 75 #[.string ⟨#[49, 57]⟩, .string r] X fun e w' => e = .returned (.string p6) ∧ Drawn0 X w') := ⟨fun X => spigotref12_Put.calls _ _ _ X e6⟩
  have ES := Aside0.mk es
  have HWd : Aside0 (∀ X, Calls Tryd.prog 82 #[.int .i64 6] X fun e w' => e = .returned (.string ⟨#[72]⟩) ∧ Below X.heap.size X w') := ⟨fun X => ref14_word_walk 6 (by decide) X⟩
  have s1 : (9223372036854775807 < p1.size + p2.size) = False := eq_false (Nat.not_lt.2 (by (try simp only [ByteArray.size_append]); omega))
  have s2 : (9223372036854775807 < p1.size + p2.size + p3.size) = False := eq_false (Nat.not_lt.2 (by (try simp only [ByteArray.size_append]); omega))
  have s3 : (9223372036854775807 < ((p1 ++ p2)).size + (p3).size) = False := eq_false (Nat.not_lt.2 (by (try simp only [ByteArray.size_append]); omega))
  have s4 : (9223372036854775807 < p4.size + p5.size) = False := eq_false (Nat.not_lt.2 (by (try simp only [ByteArray.size_append]); omega))
  have s5 : (9223372036854775807 < (((p1 ++ p2) ++ p3)).size + ((p4 ++ p5)).size) = False := eq_false (Nat.not_lt.2 (by (try simp only [ByteArray.size_append]); omega))
  have s6 : (9223372036854775807 < p1.size + p2.size + p3.size + (p4.size + p5.size)) = False := eq_false (Nat.not_lt.2 (by (try simp only [ByteArray.size_append]); omega))
  have s7 : (9223372036854775807 < ((((p1 ++ p2) ++ p3) ++ (p4 ++ p5))).size + (p6).size) = False := eq_false (Nat.not_lt.2 (by (try simp only [ByteArray.size_append]); omega))
  have s8 : (9223372036854775807 < p1.size + p2.size + p3.size + (p4.size + p5.size) + p6.size) = False := eq_false (Nat.not_lt.2 (by (try simp only [ByteArray.size_append]); omega))
  clear es e1 z1 l1 e2 z2 l2 e3 z3 l3 e4 z4 l4 e5 z5 l5 e6 z6 l6
  have HS1 : (W.alloc (.cells #[.int .i64 6, .int .i64 q, .string nm, .string x, .int .i64 0, .int .i64 0, .string r] 57)).heap.size = W.heap.size + 1 := World.size_alloc _ _
  have K0 := Aside0.mk (blk_new W (.cells #[.int .i64 6, .int .i64 q, .string nm, .string x, .int .i64 0, .int .i64 0, .string r] 57))
  have B0 : Aside0 (Below W.heap.size W (W.alloc (.cells #[.int .i64 6, .int .i64 q, .string nm, .string x, .int .i64 0, .int .i64 0, .string r] 57))) := ⟨(Below.refl _ _).alloc (Nat.le_refl _) _⟩
  have HL0 : Aside0 (W.heap.size + 0 < (W.alloc (.cells #[.int .i64 6, .int .i64 q, .string nm, .string x, .int .i64 0, .int .i64 0, .string r] 57)).heap.size) := ⟨by rw [HS1]; omega⟩
  clear HS1
  go_enter Tryd.func37, Tryd.ntmps37
  go_wp2
  refine start_ (n := 10) (S := fun w' => (∀ i, w'.cell? ⟨W.heap.size, i, none⟩ = (#[.int .i64 6, .int .i64 q, .string nm, .string x, .int .i64 0, .int .i64 0, .string r] : Array Value)[i]?)) (ds := []) #[false, false, false, false, false, false, false, false, false, false] (by kernel_rfl) rfl rfl ((fun i => blk_cell (w := (W.alloc (.cells #[.int .i64 6, .int .i64 q, .string nm, .string x, .int .i64 0, .int .i64 0, .string r] 57)).drew) K0.out i)) (fun hHeld => ?_)
  refine pure_ (i := 1) (N := some 17) (v := ?_) (a' := ?_) #[false, true, false, false, false, false, false, false, false, false] rfl rfl (by kernel_rfl) (fun _ _ _ h => h) (Or.inl ⟨by rfl, ?_⟩) ?_ ?_
  rotate_left
  · intro w'
    go_simp
    with_reducible rfl
  rotate_left
  · simp only [Act.put, List.setIfInBounds_toArray, List.set_cons_zero, List.set_cons_succ, i64_w, i32_w]
    rfl
  refine pure_ (i := 5) (N := some 21) (v := ?_) (a' := ?_) #[false, true, false, false, false, true, false, false, false, false] rfl rfl (by kernel_rfl) (fun _ _ _ h => h) (Or.inl ⟨by rfl, ?_⟩) ?_ ?_
  rotate_left
  · intro w'
    go_simp
    with_reducible rfl
  rotate_left
  · simp only [Act.put, List.setIfInBounds_toArray, List.set_cons_zero, List.set_cons_succ, i64_w, i32_w]
    rfl
  refine take_ (i := 2) (N := some 18) (v := ?_) (a' := ?_) #[false, true, true, false, false, true, false, false, false, false] rfl rfl (by kernel_rfl) (fun _ _ _ h => h) (Or.inl ⟨by rfl, ?_⟩) hHeld ?_ ?_
  rotate_left
  · intro w' s0
    go_simp
    with_reducible rfl
  rotate_left
  · simp only [Act.put, List.setIfInBounds_toArray, List.set_cons_zero, List.set_cons_succ, i64_w, i32_w]
    rfl
  refine take_ (i := 6) (N := some 22) (v := ?_) (a' := ?_) #[false, true, true, false, false, true, true, false, false, false] rfl rfl (by kernel_rfl) (fun _ _ _ h => h) (Or.inl ⟨by rfl, ?_⟩) hHeld ?_ ?_
  rotate_left
  · intro w' s0
    go_simp
    with_reducible rfl
  rotate_left
  · simp only [Act.put, List.setIfInBounds_toArray, List.set_cons_zero, List.set_cons_succ, i64_w, i32_w]
    rfl
  refine one_ (i := 0) (N := some 16) #[true, true, true, false, false, true, true, false, false, false] rfl rfl (by kernel_rfl) (by decide) (fun K hK => ?_)
  refine goes_ Tryd.func75 (by kernel_rfl) rfl #[.string ⟨#[51, 53]⟩, .string ⟨#[56]⟩] (by rfl) rfl rfl (by simp only [List.map_toArray, List.map_cons, List.map_nil]; rfl) ?_
  with_reducible refine (HP1.out _).mono ?_
  rintro e w1 ⟨rfl, hd1⟩
  refine ⟨_, rfl, ?_⟩
  have hb1 := hd1.below
  have B1 := Aside0.mk (show Below W.heap.size W w1 from (by first | exact B0.out.trans (hb1.mono B0.out.size) | exact (Below.drew B0.out).trans (hb1.mono B0.out.size)))
  have HL1 : Aside0 (W.heap.size + 0 < w1.heap.size) := ⟨Nat.lt_of_lt_of_le HL0.out hb1.size⟩
  refine hK.out _ _ ((fun i => (hb1.cell (p := ⟨W.heap.size, i, none⟩) (Nat.lt_of_le_of_lt (by first | exact Nat.le_refl _ | exact Nat.le_succ _) HL0.out)).trans (hHeld i))) (fun hHeld => ?_)
  clear hK K
  refine norm_ (a' := ?_) ?_ ?_
  rotate_left
  · show Act.put _ (some 16) _ = _
    simp only [Act.put, List.setIfInBounds_toArray, List.set_cons_zero, List.set_cons_succ, i64_w, i32_w]
    rfl
  refine one_ (i := 3) (N := some 19) #[true, true, true, true, false, true, true, false, false, false] rfl rfl (by kernel_rfl) (by decide) (fun K hK => ?_)
  refine goes_ Tryd.func76 (by kernel_rfl) rfl #[.string ⟨#[51, 52]⟩, .int .i64 q] (by rfl) rfl rfl (by simp only [List.map_toArray, List.map_cons, List.map_nil]; rfl) ?_
  with_reducible refine (HP2.out _).mono ?_
  rintro e w2 ⟨rfl, hb2⟩
  refine ⟨_, rfl, ?_⟩
  have B2 := Aside0.mk (show Below W.heap.size W w2 from (by first | exact B1.out.trans (hb2.mono B1.out.size) | exact (Below.drew B1.out).trans (hb2.mono B1.out.size)))
  have HL2 : Aside0 (W.heap.size + 0 < w2.heap.size) := ⟨Nat.lt_of_lt_of_le HL1.out hb2.size⟩
  refine hK.out _ _ ((fun i => (hb2.cell (p := ⟨W.heap.size, i, none⟩) (Nat.lt_of_le_of_lt (by first | exact Nat.le_refl _ | exact Nat.le_succ _) HL1.out)).trans (hHeld i))) (fun hHeld => ?_)
  clear hK K
  refine norm_ (a' := ?_) ?_ ?_
  rotate_left
  · show Act.put _ (some 19) _ = _
    simp only [Act.put, List.setIfInBounds_toArray, List.set_cons_zero, List.set_cons_succ, i64_w, i32_w]
    rfl
  refine pure_ (i := 4) (N := some 20) (v := ?_) (a' := ?_) #[true, true, true, true, true, true, true, false, false, false] rfl rfl (by kernel_rfl) (fun _ _ _ h => h) (Or.inl ⟨by rfl, ?_⟩) ?_ ?_
  rotate_left
  · intro w'
    go_simp
    with_reducible rfl
  rotate_left
  · simp only [Act.put, List.setIfInBounds_toArray, List.set_cons_zero, List.set_cons_succ, i64_w, i32_w]
    rfl
  refine one_ (i := 7) (N := some 23) #[true, true, true, true, true, true, true, true, false, false] rfl rfl (by kernel_rfl) (by decide) (fun K hK => ?_)
  refine goes_ Tryd.func75 (by kernel_rfl) rfl #[.string ⟨#[49, 49]⟩, .string nm] (by rfl) rfl rfl (by simp only [List.map_toArray, List.map_cons, List.map_nil]; rfl) ?_
  with_reducible refine (HP3.out _).mono ?_
  rintro e w3 ⟨rfl, hd3⟩
  refine ⟨_, rfl, ?_⟩
  have hb3 := hd3.below
  have B3 := Aside0.mk (show Below W.heap.size W w3 from (by first | exact B2.out.trans (hb3.mono B2.out.size) | exact (Below.drew B2.out).trans (hb3.mono B2.out.size)))
  have HL3 : Aside0 (W.heap.size + 0 < w3.heap.size) := ⟨Nat.lt_of_lt_of_le HL2.out hb3.size⟩
  refine hK.out _ _ ((fun i => (hb3.cell (p := ⟨W.heap.size, i, none⟩) (Nat.lt_of_le_of_lt (by first | exact Nat.le_refl _ | exact Nat.le_succ _) HL2.out)).trans (hHeld i))) (fun hHeld => ?_)
  clear hK K
  refine norm_ (a' := ?_) ?_ ?_
  rotate_left
  · show Act.put _ (some 23) _ = _
    simp only [Act.put, List.setIfInBounds_toArray, List.set_cons_zero, List.set_cons_succ, i64_w, i32_w]
    rfl
  refine pure_ (i := 8) (N := some 24) (v := ?_) (a' := ?_) #[true, true, true, true, true, true, true, true, true, false] rfl rfl (by kernel_rfl) (fun _ _ _ h => h) (Or.inl ⟨by rfl, ?_⟩) ?_ ?_
  rotate_left
  · intro w'
    go_simp
    with_reducible rfl
  rotate_left
  · simp only [Act.put, List.setIfInBounds_toArray, List.set_cons_zero, List.set_cons_succ, i64_w, i32_w]
    rfl
  refine pure_ (i := 9) (N := some 3) (v := ?_) (a' := ?_) #[true, true, true, true, true, true, true, true, true, true] rfl rfl (by kernel_rfl) (fun _ _ _ h => h) (Or.inl ⟨by rfl, ?_⟩) ?_ ?_
  rotate_left
  · intro w'
    go_simp
    with_reducible rfl
  rotate_left
  · simp only [Act.put, List.setIfInBounds_toArray, List.set_cons_zero, List.set_cons_succ, i64_w, i32_w]
    rfl
  refine done_ (by kernel_rfl) ?_
  have K3 : Aside0 (w3.heap[W.heap.size]? = some (.cells #[.int .i64 6, .int .i64 q, .string nm, .string x, .int .i64 0, .int .i64 0, .string r] 57 (0, 0))) := ⟨(blk_below (w := w2) (blk_below (w := w1) (blk_below (w := (W.alloc (.cells #[.int .i64 6, .int .i64 q, .string nm, .string x, .int .i64 0, .int .i64 0, .string r] 57)).drew) K0.out ⟨hb1.os, hb1.tape, hb1.output, hb1.size, hb1.block⟩) ⟨hb2.os, hb2.tape, hb2.output, hb2.size, hb2.block⟩) ⟨hb3.os, hb3.tape, hb3.output, hb3.size, hb3.block⟩)⟩
  (try clear hc)
  have hc := fun i => blk_cell K3.out i
  clear hb1 hb2 hb3
  go_wp2
  refine start_ (n := 11) (S := fun w' => (∀ i, w'.cell? ⟨W.heap.size, i, none⟩ = (#[.int .i64 6, .int .i64 q, .string nm, .string x, .int .i64 0, .int .i64 0, .string r] : Array Value)[i]?)) (ds := []) #[false, false, false, false, false, false, false, false, false, false, false] (by kernel_rfl) rfl rfl ((fun i => blk_cell (w := w3.drew) K3.out i)) (fun hHeld => ?_)
  refine pure_ (i := 0) (N := some 25) (v := ?_) (a' := ?_) #[true, false, false, false, false, false, false, false, false, false, false] rfl rfl (by kernel_rfl) (fun _ _ _ h => h) (Or.inl ⟨by rfl, ?_⟩) ?_ ?_
  rotate_left
  · intro w'
    go_simp
    with_reducible rfl
  rotate_left
  · simp only [Act.put, List.setIfInBounds_toArray, List.set_cons_zero, List.set_cons_succ, i64_w, i32_w]
    rfl
  refine pure_ (i := 1) (N := some 26) (v := ?_) (a' := ?_) #[true, true, false, false, false, false, false, false, false, false, false] rfl rfl (by kernel_rfl) (fun _ _ _ h => h) (Or.inl ⟨by rfl, ?_⟩) ?_ ?_
  rotate_left
  · intro w'
    go_simp
    with_reducible rfl
  rotate_left
  · simp only [Act.put, List.setIfInBounds_toArray, List.set_cons_zero, List.set_cons_succ, i64_w, i32_w]
    rfl
  refine pure_ (i := 4) (N := some 29) (v := ?_) (a' := ?_) #[true, true, false, false, true, false, false, false, false, false, false] rfl rfl (by kernel_rfl) (fun _ _ _ h => h) (Or.inl ⟨by rfl, ?_⟩) ?_ ?_
  rotate_left
  · intro w'
    go_simp
    with_reducible rfl
  rotate_left
  · simp only [Act.put, List.setIfInBounds_toArray, List.set_cons_zero, List.set_cons_succ, i64_w, i32_w]
    rfl
  refine take_ (i := 2) (N := some 27) (v := ?_) (a' := ?_) #[true, true, true, false, true, false, false, false, false, false, false] rfl rfl (by kernel_rfl) (fun _ _ _ h => h) (Or.inl ⟨by rfl, ?_⟩) hHeld ?_ ?_
  rotate_left
  · intro w' s0
    go_simp
    with_reducible rfl
  rotate_left
  · simp only [Act.put, List.setIfInBounds_toArray, List.set_cons_zero, List.set_cons_succ, i64_w, i32_w]
    rfl
  refine take_ (i := 5) (N := some 30) (v := ?_) (a' := ?_) #[true, true, true, false, true, true, false, false, false, false, false] rfl rfl (by kernel_rfl) (fun _ _ _ h => h) (Or.inl ⟨by rfl, ?_⟩) hHeld ?_ ?_
  rotate_left
  · intro w' s0
    go_simp
    with_reducible rfl
  rotate_left
  · simp only [Act.put, List.setIfInBounds_toArray, List.set_cons_zero, List.set_cons_succ, i64_w, i32_w]
    rfl
  refine one_ (i := 3) (N := some 28) #[true, true, true, true, true, true, false, false, false, false, false] rfl rfl (by kernel_rfl) (by decide) (fun K hK => ?_)
  refine goes_ Tryd.func75 (by kernel_rfl) rfl #[.string ⟨#[49, 55]⟩, .string x] (by rfl) rfl rfl (by simp only [List.map_toArray, List.map_cons, List.map_nil]; rfl) ?_
  with_reducible refine (HP4.out _).mono ?_
  rintro e w4 ⟨rfl, hd4⟩
  refine ⟨_, rfl, ?_⟩
  have hb4 := hd4.below
  have B4 := Aside0.mk (show Below W.heap.size W w4 from (by first | exact B3.out.trans (hb4.mono B3.out.size) | exact (Below.drew B3.out).trans (hb4.mono B3.out.size)))
  have HL4 : Aside0 (W.heap.size + 0 < w4.heap.size) := ⟨Nat.lt_of_lt_of_le HL3.out hb4.size⟩
  refine hK.out _ _ ((fun i => (hb4.cell (p := ⟨W.heap.size, i, none⟩) (Nat.lt_of_le_of_lt (by first | exact Nat.le_refl _ | exact Nat.le_succ _) HL3.out)).trans (hHeld i))) (fun hHeld => ?_)
  clear hK K
  refine norm_ (a' := ?_) ?_ ?_
  rotate_left
  · show Act.put _ (some 28) _ = _
    simp only [Act.put, List.setIfInBounds_toArray, List.set_cons_zero, List.set_cons_succ, i64_w, i32_w]
    rfl
  refine one_ (i := 6) (N := some 31) #[true, true, true, true, true, true, true, false, false, false, false] rfl rfl (by kernel_rfl) (by decide) (fun K hK => ?_)
  refine goes_ Tryd.func82 (by kernel_rfl) rfl #[.int .i64 6] (by rfl) rfl rfl (by simp only [List.map_toArray, List.map_cons, List.map_nil]; rfl) ?_
  with_reducible refine (HWd.out _).mono ?_
  rintro e w5 ⟨rfl, hb5⟩
  refine ⟨_, rfl, ?_⟩
  have B5 := Aside0.mk (show Below W.heap.size W w5 from (by first | exact B4.out.trans (hb5.mono B4.out.size) | exact (Below.drew B4.out).trans (hb5.mono B4.out.size)))
  have HL5 : Aside0 (W.heap.size + 0 < w5.heap.size) := ⟨Nat.lt_of_lt_of_le HL4.out hb5.size⟩
  refine hK.out _ _ ((fun i => (hb5.cell (p := ⟨W.heap.size, i, none⟩) (Nat.lt_of_le_of_lt (by first | exact Nat.le_refl _ | exact Nat.le_succ _) HL4.out)).trans (hHeld i))) (fun hHeld => ?_)
  clear hK K
  refine norm_ (a' := ?_) ?_ ?_
  rotate_left
  · show Act.put _ (some 31) _ = _
    simp only [Act.put, List.setIfInBounds_toArray, List.set_cons_zero, List.set_cons_succ, i64_w, i32_w]
    rfl
  refine one_ (i := 7) (N := some 32) #[true, true, true, true, true, true, true, true, false, false, false] rfl rfl (by kernel_rfl) (by decide) (fun K hK => ?_)
  refine goes_ Tryd.func75 (by kernel_rfl) rfl #[.string ⟨#[49, 53, 48]⟩, .string ⟨#[72]⟩] (by rfl) rfl rfl (by simp only [List.map_toArray, List.map_cons, List.map_nil]; rfl) ?_
  with_reducible refine (HP5.out _).mono ?_
  rintro e w6 ⟨rfl, hd6⟩
  refine ⟨_, rfl, ?_⟩
  have hb6 := hd6.below
  have B6 := Aside0.mk (show Below W.heap.size W w6 from (by first | exact B5.out.trans (hb6.mono B5.out.size) | exact (Below.drew B5.out).trans (hb6.mono B5.out.size)))
  have HL6 : Aside0 (W.heap.size + 0 < w6.heap.size) := ⟨Nat.lt_of_lt_of_le HL5.out hb6.size⟩
  refine hK.out _ _ ((fun i => (hb6.cell (p := ⟨W.heap.size, i, none⟩) (Nat.lt_of_le_of_lt (by first | exact Nat.le_refl _ | exact Nat.le_succ _) HL5.out)).trans (hHeld i))) (fun hHeld => ?_)
  clear hK K
  refine norm_ (a' := ?_) ?_ ?_
  rotate_left
  · show Act.put _ (some 32) _ = _
    simp only [Act.put, List.setIfInBounds_toArray, List.set_cons_zero, List.set_cons_succ, i64_w, i32_w]
    rfl
  refine pure_ (i := 8) (N := some 33) (v := ?_) (a' := ?_) #[true, true, true, true, true, true, true, true, true, false, false] rfl rfl (by kernel_rfl) (fun _ _ _ h => h) (Or.inl ⟨by rfl, ?_⟩) ?_ ?_
  rotate_left
  · intro w'
    go_simp
    with_reducible rfl
  rotate_left
  · simp only [Act.put, List.setIfInBounds_toArray, List.set_cons_zero, List.set_cons_succ, i64_w, i32_w]
    rfl
  refine pure_ (i := 9) (N := some 34) (v := ?_) (a' := ?_) #[true, true, true, true, true, true, true, true, true, true, false] rfl rfl (by kernel_rfl) (fun _ _ _ h => h) (Or.inl ⟨by rfl, ?_⟩) ?_ ?_
  rotate_left
  · intro w'
    go_simp
    with_reducible rfl
  rotate_left
  · simp only [Act.put, List.setIfInBounds_toArray, List.set_cons_zero, List.set_cons_succ, i64_w, i32_w]
    rfl
  refine pure_ (i := 10) (N := some 3) (v := ?_) (a' := ?_) #[true, true, true, true, true, true, true, true, true, true, true] rfl rfl (by kernel_rfl) (fun _ _ _ h => h) (Or.inl ⟨by rfl, ?_⟩) ?_ ?_
  rotate_left
  · intro w'
    go_simp
    with_reducible rfl
  rotate_left
  · simp only [Act.put, List.setIfInBounds_toArray, List.set_cons_zero, List.set_cons_succ, i64_w, i32_w]
    rfl
  refine done_ (by kernel_rfl) ?_
  have K6 : Aside0 (w6.heap[W.heap.size]? = some (.cells #[.int .i64 6, .int .i64 q, .string nm, .string x, .int .i64 0, .int .i64 0, .string r] 57 (0, 0))) := ⟨(blk_below (w := w5) (blk_below (w := w4) (blk_below (w := w3.drew) K3.out ⟨hb4.os, hb4.tape, hb4.output, hb4.size, hb4.block⟩) ⟨hb5.os, hb5.tape, hb5.output, hb5.size, hb5.block⟩) ⟨hb6.os, hb6.tape, hb6.output, hb6.size, hb6.block⟩)⟩
  (try clear hc)
  have hc := fun i => blk_cell K6.out i
  clear hb4 hb5 hb6
  go_wp2_with (go_at_call 75; with_reducible refine (HP6.out _).mono ?_; rintro e w7 ⟨rfl, hd7⟩; have B7 := Aside0.mk (B6.out.trans (hd7.below.mono B6.out.size)))
  go_ret
  exact ⟨by rw [← ES.out]; rfl, B7.out⟩
set_option maxRecDepth 100000 in
set_option maxHeartbeats 8000000 in
theorem repform_7 (q : Int) (nm : ByteArray) (hq : 1 ≤ q ∧ q ≤ 1099511627776) (hi : nm.size ≤ 200) (W : World) : Calls Tryd.prog 37 #[.agg #[.int .i64 7, .int .i64 q, .string nm, .string ⟨#[]⟩, .int .i64 0, .int .i64 0, .string ⟨#[]⟩]] W fun e w' => e = .returned (.string ⟨((((repF ⟨7, q, nm, ⟨#[]⟩, 0, 0, ⟨#[]⟩⟩).map pairF).map fieldL).flatten).toArray⟩) ∧ Below W.heap.size W w' := by
  obtain ⟨p1, e1, z1, l1⟩ := putF_ok ⟨#[51, 53]⟩ ⟨#[57]⟩ (by decide) (by decide)
  obtain ⟨p2, e2, z2, l2⟩ := numF_ok ⟨#[51, 52]⟩ q (by decide) (by omega) (by omega)
  obtain ⟨p3, e3, z3, l3⟩ := putF_ok ⟨#[49, 49]⟩ nm (by decide) (by omega)
  have es : ((p1 ++ p2) ++ p3) = ⟨((((repF ⟨7, q, nm, ⟨#[]⟩, 0, 0, ⟨#[]⟩⟩).map pairF).map fieldL).flatten).toArray⟩ := by
    apply ba_ext
    rw [show repF ⟨7, q, nm, ⟨#[]⟩, 0, 0, ⟨#[]⟩⟩ = [⟨35, ⟨#[57]⟩⟩, ⟨34, digitsB q⟩, ⟨11, nm⟩] from rfl]
    simp only [List.map_cons, List.map_nil, pairF, List.flatten_cons, List.flatten_nil, gl35, gl34, gl11, ByteArray.toList_data_append, l1, l2, l3]
    simp
  have HP1 : Aside0 (∀ X, Calls Tryd.prog 75 #[.string ⟨#[51, 53]⟩, .string ⟨#[57]⟩] X fun e w' => e = .returned (.string p1) ∧ Drawn0 X w') := ⟨fun X => spigotref12_Put.calls _ _ _ X e1⟩
  have HP2 : Aside0 (∀ X, Calls Tryd.prog 76 #[.string ⟨#[51, 52]⟩, .int .i64 q] X fun e w' => e = .returned (.string p2) ∧ Below X.heap.size X w') := ⟨fun X => spigotref12_Number.calls _ _ _ X e2⟩
  have HP3 : Aside0 (∀ X, Calls Tryd.prog 75 #[.string ⟨#[49, 49]⟩, .string nm] X fun e w' => e = .returned (.string p3) ∧ Drawn0 X w') := ⟨fun X => spigotref12_Put.calls _ _ _ X e3⟩
  have ES := Aside0.mk es
  have s1 : (9223372036854775807 < p1.size + p2.size) = False := eq_false (Nat.not_lt.2 (by (try simp only [ByteArray.size_append]); omega))
  have s2 : (9223372036854775807 < p1.size + p2.size + p3.size) = False := eq_false (Nat.not_lt.2 (by (try simp only [ByteArray.size_append]); omega))
  have s3 : (9223372036854775807 < ((p1 ++ p2)).size + (p3).size) = False := eq_false (Nat.not_lt.2 (by (try simp only [ByteArray.size_append]); omega))
  clear es e1 z1 l1 e2 z2 l2 e3 z3 l3
  have HS1 : (W.alloc (.cells #[.int .i64 7, .int .i64 q, .string nm, .string ⟨#[]⟩, .int .i64 0, .int .i64 0, .string ⟨#[]⟩] 57)).heap.size = W.heap.size + 1 := World.size_alloc _ _
  have K0 := Aside0.mk (blk_new W (.cells #[.int .i64 7, .int .i64 q, .string nm, .string ⟨#[]⟩, .int .i64 0, .int .i64 0, .string ⟨#[]⟩] 57))
  have B0 : Aside0 (Below W.heap.size W (W.alloc (.cells #[.int .i64 7, .int .i64 q, .string nm, .string ⟨#[]⟩, .int .i64 0, .int .i64 0, .string ⟨#[]⟩] 57))) := ⟨(Below.refl _ _).alloc (Nat.le_refl _) _⟩
  have HL0 : Aside0 (W.heap.size + 0 < (W.alloc (.cells #[.int .i64 7, .int .i64 q, .string nm, .string ⟨#[]⟩, .int .i64 0, .int .i64 0, .string ⟨#[]⟩] 57)).heap.size) := ⟨by rw [HS1]; omega⟩
  clear HS1
  go_enter Tryd.func37, Tryd.ntmps37
  go_wp2
  refine start_ (n := 10) (S := fun w' => (∀ i, w'.cell? ⟨W.heap.size, i, none⟩ = (#[.int .i64 7, .int .i64 q, .string nm, .string ⟨#[]⟩, .int .i64 0, .int .i64 0, .string ⟨#[]⟩] : Array Value)[i]?)) (ds := []) #[false, false, false, false, false, false, false, false, false, false] (by kernel_rfl) rfl rfl ((fun i => blk_cell (w := (W.alloc (.cells #[.int .i64 7, .int .i64 q, .string nm, .string ⟨#[]⟩, .int .i64 0, .int .i64 0, .string ⟨#[]⟩] 57)).drew) K0.out i)) (fun hHeld => ?_)
  refine pure_ (i := 1) (N := some 8) (v := ?_) (a' := ?_) #[false, true, false, false, false, false, false, false, false, false] rfl rfl (by kernel_rfl) (fun _ _ _ h => h) (Or.inl ⟨by rfl, ?_⟩) ?_ ?_
  rotate_left
  · intro w'
    go_simp
    with_reducible rfl
  rotate_left
  · simp only [Act.put, List.setIfInBounds_toArray, List.set_cons_zero, List.set_cons_succ, i64_w, i32_w]
    rfl
  refine pure_ (i := 5) (N := some 12) (v := ?_) (a' := ?_) #[false, true, false, false, false, true, false, false, false, false] rfl rfl (by kernel_rfl) (fun _ _ _ h => h) (Or.inl ⟨by rfl, ?_⟩) ?_ ?_
  rotate_left
  · intro w'
    go_simp
    with_reducible rfl
  rotate_left
  · simp only [Act.put, List.setIfInBounds_toArray, List.set_cons_zero, List.set_cons_succ, i64_w, i32_w]
    rfl
  refine take_ (i := 2) (N := some 9) (v := ?_) (a' := ?_) #[false, true, true, false, false, true, false, false, false, false] rfl rfl (by kernel_rfl) (fun _ _ _ h => h) (Or.inl ⟨by rfl, ?_⟩) hHeld ?_ ?_
  rotate_left
  · intro w' s0
    go_simp
    with_reducible rfl
  rotate_left
  · simp only [Act.put, List.setIfInBounds_toArray, List.set_cons_zero, List.set_cons_succ, i64_w, i32_w]
    rfl
  refine take_ (i := 6) (N := some 13) (v := ?_) (a' := ?_) #[false, true, true, false, false, true, true, false, false, false] rfl rfl (by kernel_rfl) (fun _ _ _ h => h) (Or.inl ⟨by rfl, ?_⟩) hHeld ?_ ?_
  rotate_left
  · intro w' s0
    go_simp
    with_reducible rfl
  rotate_left
  · simp only [Act.put, List.setIfInBounds_toArray, List.set_cons_zero, List.set_cons_succ, i64_w, i32_w]
    rfl
  refine one_ (i := 0) (N := some 7) #[true, true, true, false, false, true, true, false, false, false] rfl rfl (by kernel_rfl) (by decide) (fun K hK => ?_)
  refine goes_ Tryd.func75 (by kernel_rfl) rfl #[.string ⟨#[51, 53]⟩, .string ⟨#[57]⟩] (by rfl) rfl rfl (by simp only [List.map_toArray, List.map_cons, List.map_nil]; rfl) ?_
  with_reducible refine (HP1.out _).mono ?_
  rintro e w1 ⟨rfl, hd1⟩
  refine ⟨_, rfl, ?_⟩
  have hb1 := hd1.below
  have B1 := Aside0.mk (show Below W.heap.size W w1 from (by first | exact B0.out.trans (hb1.mono B0.out.size) | exact (Below.drew B0.out).trans (hb1.mono B0.out.size)))
  have HL1 : Aside0 (W.heap.size + 0 < w1.heap.size) := ⟨Nat.lt_of_lt_of_le HL0.out hb1.size⟩
  refine hK.out _ _ ((fun i => (hb1.cell (p := ⟨W.heap.size, i, none⟩) (Nat.lt_of_le_of_lt (by first | exact Nat.le_refl _ | exact Nat.le_succ _) HL0.out)).trans (hHeld i))) (fun hHeld => ?_)
  clear hK K
  refine norm_ (a' := ?_) ?_ ?_
  rotate_left
  · show Act.put _ (some 7) _ = _
    simp only [Act.put, List.setIfInBounds_toArray, List.set_cons_zero, List.set_cons_succ, i64_w, i32_w]
    rfl
  refine one_ (i := 3) (N := some 10) #[true, true, true, true, false, true, true, false, false, false] rfl rfl (by kernel_rfl) (by decide) (fun K hK => ?_)
  refine goes_ Tryd.func76 (by kernel_rfl) rfl #[.string ⟨#[51, 52]⟩, .int .i64 q] (by rfl) rfl rfl (by simp only [List.map_toArray, List.map_cons, List.map_nil]; rfl) ?_
  with_reducible refine (HP2.out _).mono ?_
  rintro e w2 ⟨rfl, hb2⟩
  refine ⟨_, rfl, ?_⟩
  have B2 := Aside0.mk (show Below W.heap.size W w2 from (by first | exact B1.out.trans (hb2.mono B1.out.size) | exact (Below.drew B1.out).trans (hb2.mono B1.out.size)))
  have HL2 : Aside0 (W.heap.size + 0 < w2.heap.size) := ⟨Nat.lt_of_lt_of_le HL1.out hb2.size⟩
  refine hK.out _ _ ((fun i => (hb2.cell (p := ⟨W.heap.size, i, none⟩) (Nat.lt_of_le_of_lt (by first | exact Nat.le_refl _ | exact Nat.le_succ _) HL1.out)).trans (hHeld i))) (fun hHeld => ?_)
  clear hK K
  refine norm_ (a' := ?_) ?_ ?_
  rotate_left
  · show Act.put _ (some 10) _ = _
    simp only [Act.put, List.setIfInBounds_toArray, List.set_cons_zero, List.set_cons_succ, i64_w, i32_w]
    rfl
  refine pure_ (i := 4) (N := some 11) (v := ?_) (a' := ?_) #[true, true, true, true, true, true, true, false, false, false] rfl rfl (by kernel_rfl) (fun _ _ _ h => h) (Or.inl ⟨by rfl, ?_⟩) ?_ ?_
  rotate_left
  · intro w'
    go_simp
    with_reducible rfl
  rotate_left
  · simp only [Act.put, List.setIfInBounds_toArray, List.set_cons_zero, List.set_cons_succ, i64_w, i32_w]
    rfl
  refine one_ (i := 7) (N := some 14) #[true, true, true, true, true, true, true, true, false, false] rfl rfl (by kernel_rfl) (by decide) (fun K hK => ?_)
  refine goes_ Tryd.func75 (by kernel_rfl) rfl #[.string ⟨#[49, 49]⟩, .string nm] (by rfl) rfl rfl (by simp only [List.map_toArray, List.map_cons, List.map_nil]; rfl) ?_
  with_reducible refine (HP3.out _).mono ?_
  rintro e w3 ⟨rfl, hd3⟩
  refine ⟨_, rfl, ?_⟩
  have hb3 := hd3.below
  have B3 := Aside0.mk (show Below W.heap.size W w3 from (by first | exact B2.out.trans (hb3.mono B2.out.size) | exact (Below.drew B2.out).trans (hb3.mono B2.out.size)))
  have HL3 : Aside0 (W.heap.size + 0 < w3.heap.size) := ⟨Nat.lt_of_lt_of_le HL2.out hb3.size⟩
  refine hK.out _ _ ((fun i => (hb3.cell (p := ⟨W.heap.size, i, none⟩) (Nat.lt_of_le_of_lt (by first | exact Nat.le_refl _ | exact Nat.le_succ _) HL2.out)).trans (hHeld i))) (fun hHeld => ?_)
  clear hK K
  refine norm_ (a' := ?_) ?_ ?_
  rotate_left
  · show Act.put _ (some 14) _ = _
    simp only [Act.put, List.setIfInBounds_toArray, List.set_cons_zero, List.set_cons_succ, i64_w, i32_w]
    rfl
  refine pure_ (i := 8) (N := some 15) (v := ?_) (a' := ?_) #[true, true, true, true, true, true, true, true, true, false] rfl rfl (by kernel_rfl) (fun _ _ _ h => h) (Or.inl ⟨by rfl, ?_⟩) ?_ ?_
  rotate_left
  · intro w'
    go_simp
    with_reducible rfl
  rotate_left
  · simp only [Act.put, List.setIfInBounds_toArray, List.set_cons_zero, List.set_cons_succ, i64_w, i32_w]
    rfl
  refine pure_ (i := 9) (N := some 2) (v := ?_) (a' := ?_) #[true, true, true, true, true, true, true, true, true, true] rfl rfl (by kernel_rfl) (fun _ _ _ h => h) (Or.inl ⟨by rfl, ?_⟩) ?_ ?_
  rotate_left
  · intro w'
    go_simp
    with_reducible rfl
  rotate_left
  · simp only [Act.put, List.setIfInBounds_toArray, List.set_cons_zero, List.set_cons_succ, i64_w, i32_w]
    rfl
  refine done_ (by kernel_rfl) ?_
  have K3 : Aside0 (w3.heap[W.heap.size]? = some (.cells #[.int .i64 7, .int .i64 q, .string nm, .string ⟨#[]⟩, .int .i64 0, .int .i64 0, .string ⟨#[]⟩] 57 (0, 0))) := ⟨(blk_below (w := w2) (blk_below (w := w1) (blk_below (w := (W.alloc (.cells #[.int .i64 7, .int .i64 q, .string nm, .string ⟨#[]⟩, .int .i64 0, .int .i64 0, .string ⟨#[]⟩] 57)).drew) K0.out ⟨hb1.os, hb1.tape, hb1.output, hb1.size, hb1.block⟩) ⟨hb2.os, hb2.tape, hb2.output, hb2.size, hb2.block⟩) ⟨hb3.os, hb3.tape, hb3.output, hb3.size, hb3.block⟩)⟩
  (try clear hc)
  have hc := fun i => blk_cell K3.out i
  clear hb1 hb2 hb3
  go_wp2
  go_ret
  exact ⟨by rw [← ES.out]; rfl, B3.out⟩
theorem repform_walk (a : RepV) (h : rightP a = true) (W : World) : Calls Tryd.prog 37 #[.agg #[.int .i64 a.f0, .int .i64 a.f1, .string a.f2, .string a.f3, .int .i64 a.f4, .int .i64 a.f5, .string a.f6]] W fun e w' => e = .returned (.string (encP a).1) ∧ Below W.heap.size W w' := by
  rw [encP_right a h]
  have hs := rightP_sizes a h
  obtain ⟨f0, f1, f2, f3, f4, f5, f6⟩ := a
  obtain ⟨hk, hq, hi, hx, h5, h5', h6⟩ := (rightP_iff _).1 h
  simp only at hk hq hi hx h5 h5' h6 hs
  rcases (show f0 = 1 ∨ f0 = 2 ∨ f0 = 3 ∨ f0 = 4 ∨ f0 = 5 ∨ f0 = 6 ∨ f0 = 7 by omega) with rfl | rfl | rfl | rfl | rfl | rfl | rfl
  · obtain ⟨rfl, rfl⟩ := h5' (by decide)
    rw [if_neg (by decide)] at h6
    subst h6
    exact repform_1 f1 f2 hq (by omega) f3 (by omega) W
  · obtain ⟨rfl, rfl⟩ := h5' (by decide)
    rw [if_neg (by decide)] at h6
    subst h6
    exact repform_2 f1 f2 hq (by omega) f3 (by omega) W
  · obtain ⟨rfl, rfl⟩ := h5' (by decide)
    rw [if_neg (by decide)] at h6
    subst h6
    exact repform_3 f1 f2 hq (by omega) f3 (by omega) W
  · obtain ⟨rfl, rfl⟩ := h5' (by decide)
    rw [if_neg (by decide)] at h6
    subst h6
    exact repform_4 f1 f2 hq (by omega) f3 (by omega) W
  · obtain ⟨hz, hp⟩ := h5 rfl
    rw [if_neg (by decide)] at h6
    subst h6
    exact repform_5 f1 f2 hq (by omega) f3 (by omega) f4 f5 hz hp W
  · obtain ⟨rfl, rfl⟩ := h5' (by decide)
    exact repform_6 f1 f2 hq (by omega) f3 (by omega) f6 (by omega) W
  · obtain ⟨rfl, rfl⟩ := h5' (by decide)
    rw [if_pos rfl] at hx
    rw [if_neg (by decide)] at h6
    subst hx h6
    exact repform_7 f1 f2 hq (by omega) W
def spigotref14_ReplyForm.f (a0_0 a0_1 : Int) (a0_2 a0_3 : ByteArray) (a0_4 a0_5 : Int) (a0_6 : ByteArray) : Option ByteArray := if rightP ⟨a0_0, a0_1, a0_2, a0_3, a0_4, a0_5, a0_6⟩ = true then some (encP ⟨a0_0, a0_1, a0_2, a0_3, a0_4, a0_5, a0_6⟩).1 else none
theorem spigotref14_ReplyForm.calls (a0_0 a0_1 : Int) (a0_2 a0_3 : ByteArray) (a0_4 a0_5 : Int) (a0_6 : ByteArray) (r : ByteArray) (w : World) (h : spigotref14_ReplyForm.f a0_0 a0_1 a0_2 a0_3 a0_4 a0_5 a0_6 = some r) :
    Calls Tryd.prog 37 #[.agg #[.int .i64 a0_0, .int .i64 a0_1, .string a0_2, .string a0_3, .int .i64 a0_4, .int .i64 a0_5, .string a0_6]] w fun e w' => e = .returned (.string r) ∧ Below w.heap.size w w' := by
  unfold spigotref14_ReplyForm.f at h
  by_cases c : rightP ⟨a0_0, a0_1, a0_2, a0_3, a0_4, a0_5, a0_6⟩ = true
  · rw [if_pos c] at h
    obtain rfl := Option.some.inj h
    exact repform_walk ⟨a0_0, a0_1, a0_2, a0_3, a0_4, a0_5, a0_6⟩ c w
  · rw [if_neg c] at h; cases h
end Go.Proofs.YtgfigkfcmkdjdaaDoor.B
end
