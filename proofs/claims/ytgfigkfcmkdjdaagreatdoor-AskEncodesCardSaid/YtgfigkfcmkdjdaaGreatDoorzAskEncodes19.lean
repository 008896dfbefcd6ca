/- The functions that the law reaches, as plain Lean functions, and their contracts: texts merged. -/
import Derived.Laws.StructEq
import Derived.Test.YtgfigkfcmkdjdaaGreatDoorzAskEncodes2
import Derived.Test.YtgfigkfcmkdjdaaGreatDoorzAskEncodes0
import Derived.Test.YtgfigkfcmkdjdaaGreatDoorzAskEncodes1
import Derived.Test.YtgfigkfcmkdjdaaGreatDoorzAskEncodes3
import Derived.Test.YtgfigkfcmkdjdaaGreatDoorzAskEncodes4
import Derived.Test.YtgfigkfcmkdjdaaGreatDoorzAskEncodes5
import Derived.Test.YtgfigkfcmkdjdaaGreatDoorzAskEncodes6
import Derived.Test.YtgfigkfcmkdjdaaGreatDoorzAskEncodes7
import Derived.Test.YtgfigkfcmkdjdaaGreatDoorzAskEncodes8
import Derived.Test.YtgfigkfcmkdjdaaGreatDoorzAskEncodes9
import Derived.Test.YtgfigkfcmkdjdaaGreatDoorzAskEncodes10
import Derived.Test.YtgfigkfcmkdjdaaGreatDoorzAskEncodes11
import Derived.Test.YtgfigkfcmkdjdaaGreatDoorzAskEncodes12
import Derived.Test.YtgfigkfcmkdjdaaGreatDoorzAskEncodes13
import Derived.Test.YtgfigkfcmkdjdaaGreatDoorzAskEncodes18
section
namespace Go.Proofs.YtgfigkfcmkdjdaaGreatDoor.B
open Go.RowKit Go.Proofs.YtgfigkfcmkdjdaaGreatDoorW.PrintWords Go.Proofs.YtgfigkfcmkdjdaaGreatDoorW.PrintLast Go.Proofs.YtgfigkfcmkdjdaaGreatDoorW.PrintMore
attribute [local go_sem] max2_int min2_int max_two min_two max_three min_three max_four min_four   -- for this text's walks alone
set_option linter.unusedVariables false
set_option linter.unusedSimpArgs false
theorem putA_ok (t v : ByteArray) (ht : t.size ≤ 10) (hv : v.size ≤ 30000) : ∃ p, spigotref12_Put.f t v = some p ∧ p.size ≤ 30100 ∧ p.data.toList = t.data.toList ++ 61 :: (v.data.toList ++ [1]) := by
  refine ⟨((t ++ (⟨#[61]⟩ : ByteArray)) ++ v) ++ (⟨#[1]⟩ : ByteArray), ?_, ?_, by simp⟩
  · have z1 : (⟨#[61]⟩ : ByteArray).size = 1 := rfl
    unfold spigotref12_Put.f
    rw [if_pos (by omega), if_pos (by rw [ByteArray.size_append]; omega), if_pos (by rw [ByteArray.size_append, ByteArray.size_append]; omega)]
  · have z1 : (⟨#[61]⟩ : ByteArray).size = 1 := rfl
    have z2 : (⟨#[1]⟩ : ByteArray).size = 1 := rfl
    rw [ByteArray.size_append, ByteArray.size_append, ByteArray.size_append]; omega
theorem numA_ok (t : ByteArray) (n : Int) (ht : t.size ≤ 10) (h0 : i63 n) : ∃ p, spigotref12_Number.f t n = some p ∧ p.size ≤ 30100 ∧ p.data.toList = t.data.toList ++ 61 :: ((digitsB n).data.toList ++ [1]) := by
  obtain ⟨p, h1, h2, h3⟩ := putA_ok t (digitsB n) ht (by have := digitsB_20 n h0.2; omega)
  refine ⟨p, ?_, h2, h3⟩
  unfold spigotref12_Number.f spigotref08_Digits.f
  rw [if_pos ⟨h0.1, h0.2⟩]
  simp only [Option.bind_some]
  rw [h1]; rfl
theorem gla35 (v : List UInt8) : fieldL (35, v) = [51, 53] ++ 61 :: (v ++ [1]) := by unfold fieldL; rw [show ((35 : Int), v).1.toNat = 35 from rfl, dg35]
theorem gla11 (v : List UInt8) : fieldL (11, v) = [49, 49] ++ 61 :: (v ++ [1]) := by unfold fieldL; rw [show ((11 : Int), v).1.toNat = 11 from rfl, dg11]
theorem gla41 (v : List UInt8) : fieldL (41, v) = [52, 49] ++ 61 :: (v ++ [1]) := by unfold fieldL; rw [show ((41 : Int), v).1.toNat = 41 from rfl, dg41]
theorem gla1 (v : List UInt8) : fieldL (1, v) = [49] ++ 61 :: (v ++ [1]) := by unfold fieldL; rw [show ((1 : Int), v).1.toNat = 1 from rfl, dg1]
theorem gla55 (v : List UInt8) : fieldL (55, v) = [53, 53] ++ 61 :: (v ++ [1]) := by unfold fieldL; rw [show ((55 : Int), v).1.toNat = 55 from rfl, dg55]
theorem gla54 (v : List UInt8) : fieldL (54, v) = [53, 52] ++ 61 :: (v ++ [1]) := by unfold fieldL; rw [show ((54 : Int), v).1.toNat = 54 from rfl, dg54]
theorem gla38 (v : List UInt8) : fieldL (38, v) = [51, 56] ++ 61 :: (v ++ [1]) := by unfold fieldL; rw [show ((38 : Int), v).1.toNat = 38 from rfl, dg38]
theorem gla44 (v : List UInt8) : fieldL (44, v) = [52, 52] ++ 61 :: (v ++ [1]) := by unfold fieldL; rw [show ((44 : Int), v).1.toNat = 44 from rfl, dg44]
theorem gla5001 (v : List UInt8) : fieldL (5001, v) = [53, 48, 48, 49] ++ 61 :: (v ++ [1]) := by unfold fieldL; rw [show ((5001 : Int), v).1.toNat = 5001 from rfl, dg5001]
theorem gla5002 (v : List UInt8) : fieldL (5002, v) = [53, 48, 48, 50] ++ 61 :: (v ++ [1]) := by unfold fieldL; rw [show ((5002 : Int), v).1.toNat = 5002 from rfl, dg5002]
theorem gla5003 (v : List UInt8) : fieldL (5003, v) = [53, 48, 48, 51] ++ 61 :: (v ++ [1]) := by unfold fieldL; rw [show ((5003 : Int), v).1.toNat = 5003 from rfl, dg5003]
theorem gla5004 (v : List UInt8) : fieldL (5004, v) = [53, 48, 48, 52] ++ 61 :: (v ++ [1]) := by unfold fieldL; rw [show ((5004 : Int), v).1.toNat = 5004 from rfl, dg5004]
theorem gla5005 (v : List UInt8) : fieldL (5005, v) = [53, 48, 48, 53] ++ 61 :: (v ++ [1]) := by unfold fieldL; rw [show ((5005 : Int), v).1.toNat = 5005 from rfl, dg5005]
theorem gla5006 (v : List UInt8) : fieldL (5006, v) = [53, 48, 48, 54] ++ 61 :: (v ++ [1]) := by unfold fieldL; rw [show ((5006 : Int), v).1.toNat = 5006 from rfl, dg5006]
def jtF (l : List Int) (j : Nat) : ByteArray := ⟨(Lib.join (((l.take j).map digitsB).map (·.data.toList)) [44]).toArray⟩
theorem jtF_all (l : List Int) : jtF l l.length = numsB l := by unfold jtF numsB joinB; rw [List.take_length]
theorem join_snoc : ∀ (L : List (List UInt8)) (x : List UInt8), L ≠ [] → Lib.join (L ++ [x]) [44] = Lib.join L [44] ++ [44] ++ x
  | [], _, h => absurd rfl h
  | [a], x, _ => by simp [Lib.join]
  | a :: b :: r, x, _ => by
    have ih := join_snoc (b :: r) x (by simp)
    have e1 : ∀ (u : List UInt8) (v : List (List UInt8)) (c : List UInt8), Lib.join (u :: c :: v) [44] = u ++ [44] ++ Lib.join (c :: v) [44] := fun u v c => by simp [Lib.join]
    rw [show a :: b :: r ++ [x] = a :: b :: (r ++ [x]) from rfl, e1, e1, show b :: (r ++ [x]) = b :: r ++ [x] from rfl, ih]
    simp only [List.append_assoc]
theorem jtF_one (l : List Int) (h : 0 < l.length) : (⟨#[]⟩ : ByteArray) ++ digitsB l[0] = jtF l 1 := by
  apply ba_ext
  unfold jtF
  rw [List.take_succ_eq_append_getElem h]
  simp [Lib.join]
theorem jtF_succ (l : List Int) (j : Nat) (h : j < l.length) (h0 : 0 < j) : (jtF l j ++ (⟨#[44]⟩ : ByteArray)) ++ digitsB l[j] = jtF l (j + 1) := by
  apply ba_ext
  unfold jtF
  rw [List.take_succ_eq_append_getElem h, List.map_append, List.map_append, List.map_cons, List.map_nil, List.map_cons, List.map_nil, join_snoc _ _ (by
    intro e
    have := congrArg List.length e
    simp only [List.length_map, List.length_take, List.length_nil] at this
    omega)]
  simp
theorem jtF_size (l : List Int) (j : Nat) (hj : j ≤ l.length) (h : numsI l) : (jtF l j).size ≤ 21000 := by
  have h1 := join_len (l.take j) (fun x hx => h.2 x (List.mem_of_mem_take hx))
  have h2 : (jtF l j).size = (Lib.join (((l.take j).map digitsB).map (·.data.toList)) [44]).length := by unfold jtF; simp [ByteArray.size]
  rw [h2]
  rw [List.length_take] at h1
  have := h.1
  omega
theorem askF_x {k : Int} (h1 : k ≠ 1) (h3 : k ≠ 3) {i tg ac sy : ByteArray} {sd q p al st en rt sh : Int} {l : List Int} : askF ⟨k, i, tg, ac, sy, sd, q, p, al, st, en, rt, sh, l⟩ = [⟨35, askKindW k⟩, ⟨11, i⟩, ⟨41, tg⟩] := by
  unfold askF
  rw [if_neg h1, if_neg h3]
theorem kindW_size (k : Int) : (askKindW k).size ≤ 30000 := by unfold askKindW; (repeat' split) <;> decide
theorem wordA (k : Int) (h : 0 ≤ k ∧ k ≤ 5) (kw : ByteArray) (e : askKindW k = kw) (X : World) : Calls Tryz.prog 35 #[.int .i64 k] X fun e w' => e = .returned (.string kw) ∧ Below X.heap.size X w' := by subst e; exact ref12_word_walk k h X
set_option maxRecDepth 100000 in
set_option maxHeartbeats 8000000 in
theorem form12_x (k sd q p al st en rt sh : Int) (i tg ac sy : ByteArray) (A0 : Option Addr) (c0 : Nat) (l : List Int) (W : World) (hC : Kd.C (Kd.int .i64) W A0 l.length l) (hc0 : l.length ≤ c0) (hl : numsI l) (hi : i.size ≤ 200) (htg : tg.size ≤ 200) (hac : ac.size ≤ 200) (hsy : sy.size ≤ 200) (h_sd : i63 sd) (h_q : i63 q) (h_p : i63 p) (h_al : i63 al) (h_st : i63 st) (h_en : i63 en) (h_rt : i63 rt) (h_sh : i63 sh) (hk : 1 ≤ k ∧ k ≤ 5) (h1 : k ≠ 1) (ha2 : al ≠ 2) (ha3 : al ≠ 3) (ha4 : al ≠ 4) :
    Calls Tryz.prog 17 #[.agg #[.int .i64 k, .string i, .string tg, .string ac, .string sy, .int .i64 sd, .int .i64 q, .int .i64 p, .int .i64 al, .int .i64 st, .int .i64 en, .int .i64 rt, .int .i64 sh, .slice A0 l.length c0]] W fun e w' => e = .returned (.string ⟨((((askF ⟨k, i, tg, ac, sy, sd, q, p, al, st, en, rt, sh, l⟩).map pairF).map fieldL).flatten).toArray⟩) ∧ Below W.heap.size W w' := by
  have hkw := kindW_size k
  obtain ⟨kw, ekw⟩ : ∃ x, askKindW k = x := ⟨_, rfl⟩
  rw [ekw] at hkw
  obtain ⟨q35, e35, z35, l35⟩ := putA_ok ⟨#[51, 53]⟩ kw (by decide) hkw
  obtain ⟨q11, e11, z11, l11⟩ := putA_ok ⟨#[49, 49]⟩ i (by decide) (by omega)
  obtain ⟨q41, e41, z41, l41⟩ := putA_ok ⟨#[52, 49]⟩ tg (by decide) (by omega)
  obtain ⟨q38, e38, z38, l38⟩ := numA_ok ⟨#[51, 56]⟩ q (by decide) h_q
  obtain ⟨q44, e44, z44, l44⟩ := numA_ok ⟨#[52, 52]⟩ p (by decide) h_p
  obtain ⟨q5003, e5003, z5003, l5003⟩ := numA_ok ⟨#[53, 48, 48, 51]⟩ en (by decide) h_en
  have es3 : k = 3 → ((((q35 ++ q11) ++ q41) ++ (q38 ++ q44)) ++ q5003) = ⟨((((askF ⟨k, i, tg, ac, sy, sd, q, p, al, st, en, rt, sh, l⟩).map pairF).map fieldL).flatten).toArray⟩ := by
    rintro rfl
    obtain rfl : askKindW 3 = kw := ekw
    apply ba_ext
    rw [show askF ⟨3, i, tg, ac, sy, sd, q, p, al, st, en, rt, sh, l⟩ = [⟨35, askKindW 3⟩, ⟨11, i⟩, ⟨41, tg⟩, ⟨38, digitsB q⟩, ⟨44, digitsB p⟩, ⟨5003, digitsB en⟩] from rfl]
    simp only [List.map_cons, List.map_nil, pairF, List.flatten_cons, List.flatten_nil, gla35, gla11, gla41, gla38, gla44, gla5003, ByteArray.toList_data_append, l35, l11, l41, l38, l44, l5003]
    simp
  have esx : k ≠ 3 → ((q35 ++ q11) ++ q41) = ⟨((((askF ⟨k, i, tg, ac, sy, sd, q, p, al, st, en, rt, sh, l⟩).map pairF).map fieldL).flatten).toArray⟩ := by
    intro h3
    subst ekw
    apply ba_ext
    rw [show askF ⟨k, i, tg, ac, sy, sd, q, p, al, st, en, rt, sh, l⟩ = [⟨35, askKindW k⟩, ⟨11, i⟩, ⟨41, tg⟩] from askF_x h1 h3]
    simp only [List.map_cons, List.map_nil, pairF, List.flatten_cons, List.flatten_nil, gla35, gla11, gla41, ByteArray.toList_data_append, l35, l11, l41]
    simp
  have HP35 : Aside0 (∀ X, Calls Tryz.prog 46 #[.string ⟨#[51, 53]⟩, .string kw] X fun e w' => e = .returned (.string q35) ∧ Drawn0 X w') := ⟨fun X => spigotref12_Put.calls _ _ _ X e35⟩
  have HP11 : Aside0 (∀ X, Calls Tryz.prog 46 #[.string ⟨#[49, 49]⟩, .string i] X fun e w' => e = .returned (.string q11) ∧ Drawn0 X w') := ⟨fun X => spigotref12_Put.calls _ _ _ X e11⟩
  have HP41 : Aside0 (∀ X, Calls Tryz.prog 46 #[.string ⟨#[52, 49]⟩, .string tg] X fun e w' => e = .returned (.string q41) ∧ Drawn0 X w') := ⟨fun X => spigotref12_Put.calls _ _ _ X e41⟩
  have HP38 : Aside0 (∀ X, Calls Tryz.prog 47 #[.string ⟨#[51, 56]⟩, .int .i64 q] X fun e w' => e = .returned (.string q38) ∧ Below X.heap.size X w') := ⟨fun X => spigotref12_Number.calls _ _ _ X e38⟩
  have HP44 : Aside0 (∀ X, Calls Tryz.prog 47 #[.string ⟨#[52, 52]⟩, .int .i64 p] X fun e w' => e = .returned (.string q44) ∧ Below X.heap.size X w') := ⟨fun X => spigotref12_Number.calls _ _ _ X e44⟩
  have HP5003 : Aside0 (∀ X, Calls Tryz.prog 47 #[.string ⟨#[53, 48, 48, 51]⟩, .int .i64 en] X fun e w' => e = .returned (.string q5003) ∧ Below X.heap.size X w') := ⟨fun X => spigotref12_Number.calls _ _ _ X e5003⟩
  have HWd : Aside0 (∀ X, Calls Tryz.prog 35 #[.int .i64 k] X fun e w' => e = .returned (.string kw) ∧ Below X.heap.size X w') := ⟨fun X => wordA k ⟨by omega, hk.2⟩ kw ekw X⟩
  have ES3 := Aside0.mk es3
  have ESX := Aside0.mk esx
  have s1 : (9223372036854775807 < q35.size + q11.size) = False := eq_false (Nat.not_lt.2 (by (try simp only [ByteArray.size_append]); omega))
  have s2 : (9223372036854775807 < (q35).size + (q11).size) = False := eq_false (Nat.not_lt.2 (by (try simp only [ByteArray.size_append]); omega))
  have s3 : (9223372036854775807 < q35.size + q11.size + q41.size) = False := eq_false (Nat.not_lt.2 (by (try simp only [ByteArray.size_append]); omega))
  have s4 : (9223372036854775807 < ((q35 ++ q11)).size + (q41).size) = False := eq_false (Nat.not_lt.2 (by (try simp only [ByteArray.size_append]); omega))
  have s5 : (9223372036854775807 < (q35 ++ q11).size + q41.size) = False := eq_false (Nat.not_lt.2 (by (try simp only [ByteArray.size_append]); omega))
  have s6 : (9223372036854775807 < q38.size + q44.size) = False := eq_false (Nat.not_lt.2 (by (try simp only [ByteArray.size_append]); omega))
  have s7 : (9223372036854775807 < (q38).size + (q44).size) = False := eq_false (Nat.not_lt.2 (by (try simp only [ByteArray.size_append]); omega))
  have s8 : (9223372036854775807 < q35.size + q11.size + q41.size + (q38.size + q44.size)) = False := eq_false (Nat.not_lt.2 (by (try simp only [ByteArray.size_append]); omega))
  have s9 : (9223372036854775807 < (((q35 ++ q11) ++ q41)).size + ((q38 ++ q44)).size) = False := eq_false (Nat.not_lt.2 (by (try simp only [ByteArray.size_append]); omega))
  have s10 : (9223372036854775807 < ((q35 ++ q11) ++ q41).size + (q38 ++ q44).size) = False := eq_false (Nat.not_lt.2 (by (try simp only [ByteArray.size_append]); omega))
  have s11 : (9223372036854775807 < q35.size + q11.size + q41.size + (q38.size + q44.size) + q5003.size) = False := eq_false (Nat.not_lt.2 (by (try simp only [ByteArray.size_append]); omega))
  have s12 : (9223372036854775807 < ((((q35 ++ q11) ++ q41) ++ (q38 ++ q44))).size + (q5003).size) = False := eq_false (Nat.not_lt.2 (by (try simp only [ByteArray.size_append]); omega))
  have s13 : (9223372036854775807 < (((q35 ++ q11) ++ q41) ++ (q38 ++ q44)).size + q5003.size) = False := eq_false (Nat.not_lt.2 (by (try simp only [ByteArray.size_append]); omega))
  have f1 : (k == 1) = false := beq_eq_false_iff_ne.2 h1
  have f1' : (k != 1) = true := by unfold bne; rw [f1]; rfl
  have g2 : (al == 2) = false := beq_eq_false_iff_ne.2 ha2
  have g3 : (al == 3) = false := beq_eq_false_iff_ne.2 ha3
  have g4 : (al == 4) = false := beq_eq_false_iff_ne.2 ha4
  clear es3 esx hkw ekw hi htg hac hsy hl hC e35 z35 l35 e11 z11 l11 e41 z41 l41 e38 z38 l38 e44 z44 l44 e5003 z5003 l5003 h_sd h_q h_p h_al h_st h_en h_rt h_sh
  clear hk h1 ha2 ha3 ha4
  have HS1 : (W.alloc (.cells #[.int .i64 k, .string i, .string tg, .string ac, .string sy, .int .i64 sd, .int .i64 q, .int .i64 p, .int .i64 al, .int .i64 st, .int .i64 en, .int .i64 rt, .int .i64 sh, .slice A0 l.length c0] 32)).heap.size = W.heap.size + 1 := World.size_alloc _ _
  have K0 := Aside0.mk (blk_new W (.cells #[.int .i64 k, .string i, .string tg, .string ac, .string sy, .int .i64 sd, .int .i64 q, .int .i64 p, .int .i64 al, .int .i64 st, .int .i64 en, .int .i64 rt, .int .i64 sh, .slice A0 l.length c0] 32))
  have B0 : Aside0 (Below W.heap.size W (W.alloc (.cells #[.int .i64 k, .string i, .string tg, .string ac, .string sy, .int .i64 sd, .int .i64 q, .int .i64 p, .int .i64 al, .int .i64 st, .int .i64 en, .int .i64 rt, .int .i64 sh, .slice A0 l.length c0] 32))) := ⟨(Below.refl _ _).alloc (Nat.le_refl _) _⟩
  have HL0 : Aside0 (W.heap.size + 0 < (W.alloc (.cells #[.int .i64 k, .string i, .string tg, .string ac, .string sy, .int .i64 sd, .int .i64 q, .int .i64 p, .int .i64 al, .int .i64 st, .int .i64 en, .int .i64 rt, .int .i64 sh, .slice A0 l.length c0] 32)).heap.size) := ⟨by rw [HS1]; omega⟩
  clear HS1
  go_enter Tryz.func17, Tryz.ntmps17
  go_wp2
  refine start_ (n := 9) (S := fun w' => (∀ ii, w'.cell? ⟨W.heap.size, ii, none⟩ = (#[.int .i64 k, .string i, .string tg, .string ac, .string sy, .int .i64 sd, .int .i64 q, .int .i64 p, .int .i64 al, .int .i64 st, .int .i64 en, .int .i64 rt, .int .i64 sh, .slice A0 l.length c0] : Array Value)[ii]?)) (ds := []) #[false, false, false, false, false, false, false, false, false] (by kernel_rfl) rfl rfl ((fun ii => blk_cell (w := (W.alloc (.cells #[.int .i64 k, .string i, .string tg, .string ac, .string sy, .int .i64 sd, .int .i64 q, .int .i64 p, .int .i64 al, .int .i64 st, .int .i64 en, .int .i64 rt, .int .i64 sh, .slice A0 l.length c0] 32)).drew) K0.out ii)) (fun hHeld => ?_)
  refine pure_ (i := 0) (N := some 6) (v := ?_) (a' := ?_) #[true, false, false, false, false, false, false, false, false] rfl rfl (by kernel_rfl) (fun _ _ _ h => h) (Or.inl ⟨by rfl, ?_⟩) ?_ ?_
  rotate_left
  · intro w'
    go_simp
    with_reducible rfl
  rotate_left
  · simp only [Act.put, List.setIfInBounds_toArray, List.set_cons_zero, List.set_cons_succ, i64_w, i32_w]
    rfl
  refine pure_ (i := 4) (N := some 10) (v := ?_) (a' := ?_) #[true, false, false, false, true, false, false, false, false] rfl rfl (by kernel_rfl) (fun _ _ _ h => h) (Or.inl ⟨by rfl, ?_⟩) ?_ ?_
  rotate_left
  · intro w'
    go_simp
    with_reducible rfl
  rotate_left
  · simp only [Act.put, List.setIfInBounds_toArray, List.set_cons_zero, List.set_cons_succ, i64_w, i32_w]
    rfl
  refine take_ (i := 1) (N := some 7) (v := ?_) (a' := ?_) #[true, true, false, false, true, false, false, false, false] rfl rfl (by kernel_rfl) (fun _ _ _ h => h) (Or.inl ⟨by rfl, ?_⟩) hHeld ?_ ?_
  rotate_left
  · intro w' s0
    go_simp
    with_reducible rfl
  rotate_left
  · simp only [Act.put, List.setIfInBounds_toArray, List.set_cons_zero, List.set_cons_succ, i64_w, i32_w]
    rfl
  refine take_ (i := 5) (N := some 11) (v := ?_) (a' := ?_) #[true, true, false, false, true, true, false, false, false] rfl rfl (by kernel_rfl) (fun _ _ _ h => h) (Or.inl ⟨by rfl, ?_⟩) hHeld ?_ ?_
  rotate_left
  · intro w' s0
    go_simp
    with_reducible rfl
  rotate_left
  · simp only [Act.put, List.setIfInBounds_toArray, List.set_cons_zero, List.set_cons_succ, i64_w, i32_w]
    rfl
  refine one_ (i := 2) (N := some 8) #[true, true, true, false, true, true, false, false, false] rfl rfl (by kernel_rfl) (by decide) (fun K hK => ?_)
  refine goes_ Tryz.func35 (by kernel_rfl) rfl #[.int .i64 k] (by rfl) rfl rfl (by simp only [List.map_toArray, List.map_cons, List.map_nil]; rfl) ?_
  with_reducible refine (HWd.out _).mono ?_
  rintro e w1 ⟨rfl, hb1⟩
  refine ⟨_, rfl, ?_⟩
  have B1 := Aside0.mk (show Below W.heap.size W w1 from (by first | exact B0.out.trans (hb1.mono B0.out.size) | exact (Below.drew B0.out).trans (hb1.mono B0.out.size)))
  have HL1 : Aside0 (W.heap.size + 0 < w1.heap.size) := ⟨Nat.lt_of_lt_of_le HL0.out hb1.size⟩
  refine hK.out _ _ ((fun i => (hb1.cell (p := ⟨W.heap.size, i, none⟩) (Nat.lt_of_le_of_lt (by first | exact Nat.le_refl _ | exact Nat.le_succ _) HL0.out)).trans (hHeld i))) (fun hHeld => ?_)
  clear hK K
  refine norm_ (a' := ?_) ?_ ?_
  rotate_left
  · show Act.put _ (some 8) _ = _
    simp only [Act.put, List.setIfInBounds_toArray, List.set_cons_zero, List.set_cons_succ, i64_w, i32_w]
    rfl
  refine one_ (i := 3) (N := some 9) #[true, true, true, true, true, true, false, false, false] rfl rfl (by kernel_rfl) (by decide) (fun K hK => ?_)
  refine goes_ Tryz.func46 (by kernel_rfl) rfl #[.string ⟨#[51, 53]⟩, .string kw] (by rfl) rfl rfl (by simp only [List.map_toArray, List.map_cons, List.map_nil]; rfl) ?_
  with_reducible refine (HP35.out _).mono ?_
  rintro e w2 ⟨rfl, hd2⟩
  refine ⟨_, rfl, ?_⟩
  have hb2 := hd2.below
  have B2 := Aside0.mk (show Below W.heap.size W w2 from (by first | exact B1.out.trans (hb2.mono B1.out.size) | exact (Below.drew B1.out).trans (hb2.mono B1.out.size)))
  have HL2 : Aside0 (W.heap.size + 0 < w2.heap.size) := ⟨Nat.lt_of_lt_of_le HL1.out hb2.size⟩
  refine hK.out _ _ ((fun i => (hb2.cell (p := ⟨W.heap.size, i, none⟩) (Nat.lt_of_le_of_lt (by first | exact Nat.le_refl _ | exact Nat.le_succ _) HL1.out)).trans (hHeld i))) (fun hHeld => ?_)
  clear hK K
  refine norm_ (a' := ?_) ?_ ?_
  rotate_left
  · show Act.put _ (some 9) _ = _
    simp only [Act.put, List.setIfInBounds_toArray, List.set_cons_zero, List.set_cons_succ, i64_w, i32_w]
    rfl
  refine one_ (i := 6) (N := some 12) #[true, true, true, true, true, true, true, false, false] rfl rfl (by kernel_rfl) (by decide) (fun K hK => ?_)
  refine goes_ Tryz.func46 (by kernel_rfl) rfl #[.string ⟨#[49, 49]⟩, .string i] (by rfl) rfl rfl (by simp only [List.map_toArray, List.map_cons, List.map_nil]; rfl) ?_
  with_reducible refine (HP11.out _).mono ?_
  rintro e w3 ⟨rfl, hd3⟩
  refine ⟨_, rfl, ?_⟩
  have hb3 := hd3.below
  have B3 := Aside0.mk (show Below W.heap.size W w3 from (by first | exact B2.out.trans (hb3.mono B2.out.size) | exact (Below.drew B2.out).trans (hb3.mono B2.out.size)))
  have HL3 : Aside0 (W.heap.size + 0 < w3.heap.size) := ⟨Nat.lt_of_lt_of_le HL2.out hb3.size⟩
  refine hK.out _ _ ((fun i => (hb3.cell (p := ⟨W.heap.size, i, none⟩) (Nat.lt_of_le_of_lt (by first | exact Nat.le_refl _ | exact Nat.le_succ _) HL2.out)).trans (hHeld i))) (fun hHeld => ?_)
  clear hK K
  refine norm_ (a' := ?_) ?_ ?_
  rotate_left
  · show Act.put _ (some 12) _ = _
    simp only [Act.put, List.setIfInBounds_toArray, List.set_cons_zero, List.set_cons_succ, i64_w, i32_w]
    rfl
  refine pure_ (i := 7) (N := some 13) (v := ?_) (a' := ?_) #[true, true, true, true, true, true, true, true, false] rfl rfl (by kernel_rfl) (fun _ _ _ h => h) (Or.inl ⟨by rfl, ?_⟩) ?_ ?_
  rotate_left
  · intro w'
    go_simp
    with_reducible rfl
  rotate_left
  · simp only [Act.put, List.setIfInBounds_toArray, List.set_cons_zero, List.set_cons_succ, i64_w, i32_w]
    rfl
  refine pure_ (i := 8) (N := some 3) (v := ?_) (a' := ?_) #[true, true, true, true, true, true, true, true, true] rfl rfl (by kernel_rfl) (fun _ _ _ h => h) (Or.inl ⟨by rfl, ?_⟩) ?_ ?_
  rotate_left
  · intro w'
    go_simp
    with_reducible rfl
  rotate_left
  · simp only [Act.put, List.setIfInBounds_toArray, List.set_cons_zero, List.set_cons_succ, i64_w, i32_w]
    rfl
  refine done_ (by kernel_rfl) ?_
  have K3 : Aside0 (w3.heap[W.heap.size]? = some (.cells #[.int .i64 k, .string i, .string tg, .string ac, .string sy, .int .i64 sd, .int .i64 q, .int .i64 p, .int .i64 al, .int .i64 st, .int .i64 en, .int .i64 rt, .int .i64 sh, .slice A0 l.length c0] 32 (0, 0))) := ⟨(blk_below (w := w2) (blk_below (w := w1) (blk_below (w := (W.alloc (.cells #[.int .i64 k, .string i, .string tg, .string ac, .string sy, .int .i64 sd, .int .i64 q, .int .i64 p, .int .i64 al, .int .i64 st, .int .i64 en, .int .i64 rt, .int .i64 sh, .slice A0 l.length c0] 32)).drew) K0.out ⟨hb1.os, hb1.tape, hb1.output, hb1.size, hb1.block⟩) ⟨hb2.os, hb2.tape, hb2.output, hb2.size, hb2.block⟩) ⟨hb3.os, hb3.tape, hb3.output, hb3.size, hb3.block⟩)⟩
  (try clear hc)
  have hc := fun i => blk_cell K3.out i
  clear hb1 hb2 hb3
  by_cases h3 : k = 3
  · have ES := Aside0.mk (ES3.out h3)
    have f3 : (k == 3) = true := by rw [beq_iff_eq]; exact h3
    clear h3 ES3 ESX HWd
    go_upto_region 7 with (go_at_call 46; ((with_reducible refine (HP41.out _).mono ?_)); rintro e w4 ⟨rfl, hd4⟩; have hb4 := hd4.below; clear hd4; have n0_ := Aside0.mk (blk_below K3.out hb4); have n1_ := Aside0.mk (B3.out.trans (hb4.mono B3.out.size)); have n2_ : Aside0 (W.heap.size + 0 < w4.heap.size) := ⟨Nat.lt_of_lt_of_le HL3.out hb4.size⟩; clear hb4; (try clear hc); have K4 := n0_; have B4 := n1_; have HL4 := n2_; clear n0_ n1_ n2_; have hc := fun i => blk_cell K4.out i)
    refine start_ (n := 10) (S := fun w' => (∀ ii, w'.cell? ⟨W.heap.size, ii, none⟩ = (#[.int .i64 k, .string i, .string tg, .string ac, .string sy, .int .i64 sd, .int .i64 q, .int .i64 p, .int .i64 al, .int .i64 st, .int .i64 en, .int .i64 rt, .int .i64 sh, .slice A0 l.length c0] : Array Value)[ii]?)) (ds := []) #[false, false, false, false, false, false, false, false, false, false] (by kernel_rfl) rfl rfl ((fun ii => blk_cell (w := w4.drew) K4.out ii)) (fun hHeld => ?_)
    refine pure_ (i := 0) (N := some 46) (v := ?_) (a' := ?_) #[true, false, false, false, false, false, false, false, false, false] rfl rfl (by kernel_rfl) (fun _ _ _ h => h) (Or.inl ⟨by rfl, ?_⟩) ?_ ?_
    rotate_left
    · intro w'
      go_simp
      with_reducible rfl
    rotate_left
    · simp only [Act.put, List.setIfInBounds_toArray, List.set_cons_zero, List.set_cons_succ, i64_w, i32_w]
      rfl
    refine pure_ (i := 1) (N := some 47) (v := ?_) (a' := ?_) #[true, true, false, false, false, false, false, false, false, false] rfl rfl (by kernel_rfl) (fun _ _ _ h => h) (Or.inl ⟨by rfl, ?_⟩) ?_ ?_
    rotate_left
    · intro w'
      go_simp
      with_reducible rfl
    rotate_left
    · simp only [Act.put, List.setIfInBounds_toArray, List.set_cons_zero, List.set_cons_succ, i64_w, i32_w]
      rfl
    refine pure_ (i := 4) (N := some 50) (v := ?_) (a' := ?_) #[true, true, false, false, true, false, false, false, false, false] rfl rfl (by kernel_rfl) (fun _ _ _ h => h) (Or.inl ⟨by rfl, ?_⟩) ?_ ?_
    rotate_left
    · intro w'
      go_simp
      with_reducible rfl
    rotate_left
    · simp only [Act.put, List.setIfInBounds_toArray, List.set_cons_zero, List.set_cons_succ, i64_w, i32_w]
      rfl
    refine take_ (i := 2) (N := some 48) (v := ?_) (a' := ?_) #[true, true, true, false, true, false, false, false, false, false] rfl rfl (by kernel_rfl) (fun _ _ _ h => h) (Or.inl ⟨by rfl, ?_⟩) hHeld ?_ ?_
    rotate_left
    · intro w' s0
      go_simp
      with_reducible rfl
    rotate_left
    · simp only [Act.put, List.setIfInBounds_toArray, List.set_cons_zero, List.set_cons_succ, i64_w, i32_w]
      rfl
    refine take_ (i := 5) (N := some 51) (v := ?_) (a' := ?_) #[true, true, true, false, true, true, false, false, false, false] rfl rfl (by kernel_rfl) (fun _ _ _ h => h) (Or.inl ⟨by rfl, ?_⟩) hHeld ?_ ?_
    rotate_left
    · intro w' s0
      go_simp
      with_reducible rfl
    rotate_left
    · simp only [Act.put, List.setIfInBounds_toArray, List.set_cons_zero, List.set_cons_succ, i64_w, i32_w]
      rfl
    refine one_ (i := 3) (N := some 49) #[true, true, true, true, true, true, false, false, false, false] rfl rfl (by kernel_rfl) (by decide) (fun K hK => ?_)
    refine goes_ Tryz.func47 (by kernel_rfl) rfl #[.string ⟨#[51, 56]⟩, .int .i64 q] (by rfl) rfl rfl (by simp only [List.map_toArray, List.map_cons, List.map_nil]; rfl) ?_
    with_reducible refine (HP38.out _).mono ?_
    rintro e w5 ⟨rfl, hb5⟩
    refine ⟨_, rfl, ?_⟩
    have B5 := Aside0.mk (show Below W.heap.size W w5 from (by first | exact B4.out.trans (hb5.mono B4.out.size) | exact (Below.drew B4.out).trans (hb5.mono B4.out.size)))
    have HL5 : Aside0 (W.heap.size + 0 < w5.heap.size) := ⟨Nat.lt_of_lt_of_le HL4.out hb5.size⟩
    refine hK.out _ _ ((fun i => (hb5.cell (p := ⟨W.heap.size, i, none⟩) (Nat.lt_of_le_of_lt (by first | exact Nat.le_refl _ | exact Nat.le_succ _) HL4.out)).trans (hHeld i))) (fun hHeld => ?_)
    clear hK K
    refine norm_ (a' := ?_) ?_ ?_
    rotate_left
    · show Act.put _ (some 49) _ = _
      simp only [Act.put, List.setIfInBounds_toArray, List.set_cons_zero, List.set_cons_succ, i64_w, i32_w]
      rfl
    refine one_ (i := 6) (N := some 52) #[true, true, true, true, true, true, true, false, false, false] rfl rfl (by kernel_rfl) (by decide) (fun K hK => ?_)
    refine goes_ Tryz.func47 (by kernel_rfl) rfl #[.string ⟨#[52, 52]⟩, .int .i64 p] (by rfl) rfl rfl (by simp only [List.map_toArray, List.map_cons, List.map_nil]; rfl) ?_
    with_reducible refine (HP44.out _).mono ?_
    rintro e w6 ⟨rfl, hb6⟩
    refine ⟨_, rfl, ?_⟩
    have B6 := Aside0.mk (show Below W.heap.size W w6 from (by first | exact B5.out.trans (hb6.mono B5.out.size) | exact (Below.drew B5.out).trans (hb6.mono B5.out.size)))
    have HL6 : Aside0 (W.heap.size + 0 < w6.heap.size) := ⟨Nat.lt_of_lt_of_le HL5.out hb6.size⟩
    refine hK.out _ _ ((fun i => (hb6.cell (p := ⟨W.heap.size, i, none⟩) (Nat.lt_of_le_of_lt (by first | exact Nat.le_refl _ | exact Nat.le_succ _) HL5.out)).trans (hHeld i))) (fun hHeld => ?_)
    clear hK K
    refine norm_ (a' := ?_) ?_ ?_
    rotate_left
    · show Act.put _ (some 52) _ = _
      simp only [Act.put, List.setIfInBounds_toArray, List.set_cons_zero, List.set_cons_succ, i64_w, i32_w]
      rfl
    refine pure_ (i := 7) (N := some 53) (v := ?_) (a' := ?_) #[true, true, true, true, true, true, true, true, false, false] rfl rfl (by kernel_rfl) (fun _ _ _ h => h) (Or.inl ⟨by rfl, ?_⟩) ?_ ?_
    rotate_left
    · intro w'
      go_simp
      with_reducible rfl
    rotate_left
    · simp only [Act.put, List.setIfInBounds_toArray, List.set_cons_zero, List.set_cons_succ, i64_w, i32_w]
      rfl
    refine pure_ (i := 8) (N := some 54) (v := ?_) (a' := ?_) #[true, true, true, true, true, true, true, true, true, false] rfl rfl (by kernel_rfl) (fun _ _ _ h => h) (Or.inl ⟨by rfl, ?_⟩) ?_ ?_
    rotate_left
    · intro w'
      go_simp
      with_reducible rfl
    rotate_left
    · simp only [Act.put, List.setIfInBounds_toArray, List.set_cons_zero, List.set_cons_succ, i64_w, i32_w]
      rfl
    refine pure_ (i := 9) (N := some 3) (v := ?_) (a' := ?_) #[true, true, true, true, true, true, true, true, true, true] rfl rfl (by kernel_rfl) (fun _ _ _ h => h) (Or.inl ⟨by rfl, ?_⟩) ?_ ?_
    rotate_left
    · intro w'
      go_simp
      with_reducible rfl
    rotate_left
    · simp only [Act.put, List.setIfInBounds_toArray, List.set_cons_zero, List.set_cons_succ, i64_w, i32_w]
      rfl
    refine done_ (by kernel_rfl) ?_
    have K6 : Aside0 (w6.heap[W.heap.size]? = some (.cells #[.int .i64 k, .string i, .string tg, .string ac, .string sy, .int .i64 sd, .int .i64 q, .int .i64 p, .int .i64 al, .int .i64 st, .int .i64 en, .int .i64 rt, .int .i64 sh, .slice A0 l.length c0] 32 (0, 0))) := ⟨(blk_below (w := w5) (blk_below (w := w4.drew) K4.out ⟨hb5.os, hb5.tape, hb5.output, hb5.size, hb5.block⟩) ⟨hb6.os, hb6.tape, hb6.output, hb6.size, hb6.block⟩)⟩
    (try clear hc)
    have hc := fun i => blk_cell K6.out i
    clear hb5 hb6
    go_wp2_with (go_at_call 47; ((with_reducible refine (HP5003.out _).mono ?_)); rintro e w7 ⟨rfl, hb7⟩; have n0_ := Aside0.mk (blk_below K6.out hb7); have n1_ := Aside0.mk (B6.out.trans (hb7.mono B6.out.size)); have n2_ : Aside0 (W.heap.size + 0 < w7.heap.size) := ⟨Nat.lt_of_lt_of_le HL6.out hb7.size⟩; clear hb7; (try clear hc); have K7 := n0_; have B7 := n1_; have HL7 := n2_; clear n0_ n1_ n2_; have hc := fun i => blk_cell K7.out i)
    go_ret
    exact ⟨by rw [← ES.out]; rfl, B7.out⟩
  · have ES := Aside0.mk (ESX.out h3)
    have f3 : (k == 3) = false := beq_eq_false_iff_ne.2 h3
    clear h3 ES3 ESX HWd
    go_wp2_with (go_at_call 46; ((with_reducible refine (HP41.out _).mono ?_)); rintro e w4 ⟨rfl, hd4⟩; have hb4 := hd4.below; clear hd4; have n0_ := Aside0.mk (blk_below K3.out hb4); have n1_ := Aside0.mk (B3.out.trans (hb4.mono B3.out.size)); have n2_ : Aside0 (W.heap.size + 0 < w4.heap.size) := ⟨Nat.lt_of_lt_of_le HL3.out hb4.size⟩; clear hb4; (try clear hc); have K4 := n0_; have B4 := n1_; have HL4 := n2_; clear n0_ n1_ n2_; have hc := fun i => blk_cell K4.out i)
    go_ret
    exact ⟨by rw [← ES.out]; rfl, B4.out⟩
set_option maxRecDepth 100000 in
set_option maxHeartbeats 8000000 in
theorem form12_1 (sd q p al st en rt sh : Int) (i tg ac sy : ByteArray) (A0 : Option Addr) (c0 : Nat) (l : List Int) (W : World) (hC : Kd.C (Kd.int .i64) W A0 l.length l) (hc0 : l.length ≤ c0) (hl : numsI l) (hi : i.size ≤ 200) (htg : tg.size ≤ 200) (hac : ac.size ≤ 200) (hsy : sy.size ≤ 200) (h_sd : i63 sd) (h_q : i63 q) (h_p : i63 p) (h_al : i63 al) (h_st : i63 st) (h_en : i63 en) (h_rt : i63 rt) (h_sh : i63 sh) (ha : 1 ≤ al ∧ al ≤ 4) :
    Calls Tryz.prog 17 #[.agg #[.int .i64 1, .string i, .string tg, .string ac, .string sy, .int .i64 sd, .int .i64 q, .int .i64 p, .int .i64 al, .int .i64 st, .int .i64 en, .int .i64 rt, .int .i64 sh, .slice A0 l.length c0]] W fun e w' => e = .returned (.string ⟨((((askF ⟨1, i, tg, ac, sy, sd, q, p, al, st, en, rt, sh, l⟩).map pairF).map fieldL).flatten).toArray⟩) ∧ Below W.heap.size W w' := by
  obtain ⟨q35, e35, z35, l35⟩ := putA_ok ⟨#[51, 53]⟩ ⟨#[68]⟩ (by decide) (by decide)
  obtain ⟨q11, e11, z11, l11⟩ := putA_ok ⟨#[49, 49]⟩ i (by decide) (by omega)
  obtain ⟨q1, e1, z1, l1⟩ := putA_ok ⟨#[49]⟩ ac (by decide) (by omega)
  obtain ⟨q55, e55, z55, l55⟩ := putA_ok ⟨#[53, 53]⟩ sy (by decide) (by omega)
  obtain ⟨q54, e54, z54, l54⟩ := numA_ok ⟨#[53, 52]⟩ sd (by decide) h_sd
  obtain ⟨q38, e38, z38, l38⟩ := numA_ok ⟨#[51, 56]⟩ q (by decide) h_q
  obtain ⟨q44, e44, z44, l44⟩ := numA_ok ⟨#[52, 52]⟩ p (by decide) h_p
  obtain ⟨q5001, e5001, z5001, l5001⟩ := numA_ok ⟨#[53, 48, 48, 49]⟩ al (by decide) h_al
  obtain ⟨q5002, e5002, z5002, l5002⟩ := numA_ok ⟨#[53, 48, 48, 50]⟩ st (by decide) h_st
  obtain ⟨q5003, e5003, z5003, l5003⟩ := numA_ok ⟨#[53, 48, 48, 51]⟩ en (by decide) h_en
  obtain ⟨q5004, e5004, z5004, l5004⟩ := numA_ok ⟨#[53, 48, 48, 52]⟩ rt (by decide) h_rt
  obtain ⟨q5005, e5005, z5005, l5005⟩ := numA_ok ⟨#[53, 48, 48, 53]⟩ sh (by decide) h_sh
  obtain ⟨q5006, e5006, z5006, l5006⟩ := putA_ok ⟨#[53, 48, 48, 54]⟩ (numsB l) (by decide) (by have := jtF_size l l.length (Nat.le_refl _) hl; rw [jtF_all] at this; omega)
  have es1 : al = 1 → (((((q35 ++ q11) ++ ((q1 ++ q55) ++ q54)) ++ (q38 ++ q44)) ++ (q5001 ++ q5002)) ++ q5003) = ⟨((((askF ⟨1, i, tg, ac, sy, sd, q, p, al, st, en, rt, sh, l⟩).map pairF).map fieldL).flatten).toArray⟩ := by
    rintro rfl
    apply ba_ext
    rw [show askF ⟨1, i, tg, ac, sy, sd, q, p, 1, st, en, rt, sh, l⟩ = [⟨35, ⟨#[68]⟩⟩, ⟨11, i⟩, ⟨1, ac⟩, ⟨55, sy⟩, ⟨54, digitsB sd⟩, ⟨38, digitsB q⟩, ⟨44, digitsB p⟩, ⟨5001, digitsB 1⟩, ⟨5002, digitsB st⟩, ⟨5003, digitsB en⟩] from rfl]
    simp only [List.map_cons, List.map_nil, pairF, List.flatten_cons, List.flatten_nil, gla35, gla11, gla1, gla55, gla54, gla38, gla44, gla5001, gla5002, gla5003, ByteArray.toList_data_append, l35, l11, l1, l55, l54, l38, l44, l5001, l5002, l5003]
    simp
  have es2 : al = 2 → ((((((q35 ++ q11) ++ ((q1 ++ q55) ++ q54)) ++ (q38 ++ q44)) ++ (q5001 ++ q5002)) ++ q5003) ++ q5006) = ⟨((((askF ⟨1, i, tg, ac, sy, sd, q, p, al, st, en, rt, sh, l⟩).map pairF).map fieldL).flatten).toArray⟩ := by
    rintro rfl
    apply ba_ext
    rw [show askF ⟨1, i, tg, ac, sy, sd, q, p, 2, st, en, rt, sh, l⟩ = [⟨35, ⟨#[68]⟩⟩, ⟨11, i⟩, ⟨1, ac⟩, ⟨55, sy⟩, ⟨54, digitsB sd⟩, ⟨38, digitsB q⟩, ⟨44, digitsB p⟩, ⟨5001, digitsB 2⟩, ⟨5002, digitsB st⟩, ⟨5003, digitsB en⟩, ⟨5006, numsB l⟩] from rfl]
    simp only [List.map_cons, List.map_nil, pairF, List.flatten_cons, List.flatten_nil, gla35, gla11, gla1, gla55, gla54, gla38, gla44, gla5001, gla5002, gla5003, gla5006, ByteArray.toList_data_append, l35, l11, l1, l55, l54, l38, l44, l5001, l5002, l5003, l5006]
    simp
  have es3 : al = 3 → ((((((q35 ++ q11) ++ ((q1 ++ q55) ++ q54)) ++ (q38 ++ q44)) ++ (q5001 ++ q5002)) ++ q5003) ++ q5004) = ⟨((((askF ⟨1, i, tg, ac, sy, sd, q, p, al, st, en, rt, sh, l⟩).map pairF).map fieldL).flatten).toArray⟩ := by
    rintro rfl
    apply ba_ext
    rw [show askF ⟨1, i, tg, ac, sy, sd, q, p, 3, st, en, rt, sh, l⟩ = [⟨35, ⟨#[68]⟩⟩, ⟨11, i⟩, ⟨1, ac⟩, ⟨55, sy⟩, ⟨54, digitsB sd⟩, ⟨38, digitsB q⟩, ⟨44, digitsB p⟩, ⟨5001, digitsB 3⟩, ⟨5002, digitsB st⟩, ⟨5003, digitsB en⟩, ⟨5004, digitsB rt⟩] from rfl]
    simp only [List.map_cons, List.map_nil, pairF, List.flatten_cons, List.flatten_nil, gla35, gla11, gla1, gla55, gla54, gla38, gla44, gla5001, gla5002, gla5003, gla5004, ByteArray.toList_data_append, l35, l11, l1, l55, l54, l38, l44, l5001, l5002, l5003, l5004]
    simp
  have es4 : al = 4 → ((((((q35 ++ q11) ++ ((q1 ++ q55) ++ q54)) ++ (q38 ++ q44)) ++ (q5001 ++ q5002)) ++ q5003) ++ q5005) = ⟨((((askF ⟨1, i, tg, ac, sy, sd, q, p, al, st, en, rt, sh, l⟩).map pairF).map fieldL).flatten).toArray⟩ := by
    rintro rfl
    apply ba_ext
    rw [show askF ⟨1, i, tg, ac, sy, sd, q, p, 4, st, en, rt, sh, l⟩ = [⟨35, ⟨#[68]⟩⟩, ⟨11, i⟩, ⟨1, ac⟩, ⟨55, sy⟩, ⟨54, digitsB sd⟩, ⟨38, digitsB q⟩, ⟨44, digitsB p⟩, ⟨5001, digitsB 4⟩, ⟨5002, digitsB st⟩, ⟨5003, digitsB en⟩, ⟨5005, digitsB sh⟩] from rfl]
    simp only [List.map_cons, List.map_nil, pairF, List.flatten_cons, List.flatten_nil, gla35, gla11, gla1, gla55, gla54, gla38, gla44, gla5001, gla5002, gla5003, gla5005, ByteArray.toList_data_append, l35, l11, l1, l55, l54, l38, l44, l5001, l5002, l5003, l5005]
    simp
  have HP35 : Aside0 (∀ X, Calls Tryz.prog 46 #[.string ⟨#[51, 53]⟩, .string ⟨#[68]⟩] X fun e w' => e = .returned (.string q35) ∧ Drawn0 X w') := ⟨fun X => spigotref12_Put.calls _ _ _ X e35⟩
  have HP11 : Aside0 (∀ X, Calls Tryz.prog 46 #[.string ⟨#[49, 49]⟩, .string i] X fun e w' => e = .returned (.string q11) ∧ Drawn0 X w') := ⟨fun X => spigotref12_Put.calls _ _ _ X e11⟩
  have HP1 : Aside0 (∀ X, Calls Tryz.prog 46 #[.string ⟨#[49]⟩, .string ac] X fun e w' => e = .returned (.string q1) ∧ Drawn0 X w') := ⟨fun X => spigotref12_Put.calls _ _ _ X e1⟩
  have HP55 : Aside0 (∀ X, Calls Tryz.prog 46 #[.string ⟨#[53, 53]⟩, .string sy] X fun e w' => e = .returned (.string q55) ∧ Drawn0 X w') := ⟨fun X => spigotref12_Put.calls _ _ _ X e55⟩
  have HP54 : Aside0 (∀ X, Calls Tryz.prog 47 #[.string ⟨#[53, 52]⟩, .int .i64 sd] X fun e w' => e = .returned (.string q54) ∧ Below X.heap.size X w') := ⟨fun X => spigotref12_Number.calls _ _ _ X e54⟩
  have HP38 : Aside0 (∀ X, Calls Tryz.prog 47 #[.string ⟨#[51, 56]⟩, .int .i64 q] X fun e w' => e = .returned (.string q38) ∧ Below X.heap.size X w') := ⟨fun X => spigotref12_Number.calls _ _ _ X e38⟩
  have HP44 : Aside0 (∀ X, Calls Tryz.prog 47 #[.string ⟨#[52, 52]⟩, .int .i64 p] X fun e w' => e = .returned (.string q44) ∧ Below X.heap.size X w') := ⟨fun X => spigotref12_Number.calls _ _ _ X e44⟩
  have HP5001 : Aside0 (∀ X, Calls Tryz.prog 47 #[.string ⟨#[53, 48, 48, 49]⟩, .int .i64 al] X fun e w' => e = .returned (.string q5001) ∧ Below X.heap.size X w') := ⟨fun X => spigotref12_Number.calls _ _ _ X e5001⟩
  have HP5002 : Aside0 (∀ X, Calls Tryz.prog 47 #[.string ⟨#[53, 48, 48, 50]⟩, .int .i64 st] X fun e w' => e = .returned (.string q5002) ∧ Below X.heap.size X w') := ⟨fun X => spigotref12_Number.calls _ _ _ X e5002⟩
  have HP5003 : Aside0 (∀ X, Calls Tryz.prog 47 #[.string ⟨#[53, 48, 48, 51]⟩, .int .i64 en] X fun e w' => e = .returned (.string q5003) ∧ Below X.heap.size X w') := ⟨fun X => spigotref12_Number.calls _ _ _ X e5003⟩
  have HP5004 : Aside0 (∀ X, Calls Tryz.prog 47 #[.string ⟨#[53, 48, 48, 52]⟩, .int .i64 rt] X fun e w' => e = .returned (.string q5004) ∧ Below X.heap.size X w') := ⟨fun X => spigotref12_Number.calls _ _ _ X e5004⟩
  have HP5005 : Aside0 (∀ X, Calls Tryz.prog 47 #[.string ⟨#[53, 48, 48, 53]⟩, .int .i64 sh] X fun e w' => e = .returned (.string q5005) ∧ Below X.heap.size X w') := ⟨fun X => spigotref12_Number.calls _ _ _ X e5005⟩
  have HP5006 : Aside0 (∀ X, Calls Tryz.prog 46 #[.string ⟨#[53, 48, 48, 54]⟩, .string (numsB l)] X fun e w' => e = .returned (.string q5006) ∧ Drawn0 X w') := ⟨fun X => spigotref12_Put.calls _ _ _ X e5006⟩
  have HWd : Aside0 (∀ X, Calls Tryz.prog 35 #[.int .i64 1] X fun e w' => e = .returned (.string ⟨#[68]⟩) ∧ Below X.heap.size X w') := ⟨fun X => wordA 1 (by decide) _ rfl X⟩
  have ES1 := Aside0.mk es1
  have ES2 := Aside0.mk es2
  have ES3 := Aside0.mk es3
  have ES4 := Aside0.mk es4
  have s1 : (9223372036854775807 < q35.size + q11.size) = False := eq_false (Nat.not_lt.2 (by (try simp only [ByteArray.size_append]); omega))
  have s2 : (9223372036854775807 < (q35).size + (q11).size) = False := eq_false (Nat.not_lt.2 (by (try simp only [ByteArray.size_append]); omega))
  have s3 : (9223372036854775807 < q1.size + q55.size) = False := eq_false (Nat.not_lt.2 (by (try simp only [ByteArray.size_append]); omega))
  have s4 : (9223372036854775807 < (q1).size + (q55).size) = False := eq_false (Nat.not_lt.2 (by (try simp only [ByteArray.size_append]); omega))
  have s5 : (9223372036854775807 < q1.size + q55.size + q54.size) = False := eq_false (Nat.not_lt.2 (by (try simp only [ByteArray.size_append]); omega))
  have s6 : (9223372036854775807 < ((q1 ++ q55)).size + (q54).size) = False := eq_false (Nat.not_lt.2 (by (try simp only [ByteArray.size_append]); omega))
  have s7 : (9223372036854775807 < (q1 ++ q55).size + q54.size) = False := eq_false (Nat.not_lt.2 (by (try simp only [ByteArray.size_append]); omega))
  have s8 : (9223372036854775807 < q35.size + q11.size + (q1.size + q55.size + q54.size)) = False := eq_false (Nat.not_lt.2 (by (try simp only [ByteArray.size_append]); omega))
  have s9 : (9223372036854775807 < ((q35 ++ q11)).size + (((q1 ++ q55) ++ q54)).size) = False := eq_false (Nat.not_lt.2 (by (try simp only [ByteArray.size_append]); omega))
  have s10 : (9223372036854775807 < (q35 ++ q11).size + ((q1 ++ q55) ++ q54).size) = False := eq_false (Nat.not_lt.2 (by (try simp only [ByteArray.size_append]); omega))
  have s11 : (9223372036854775807 < q38.size + q44.size) = False := eq_false (Nat.not_lt.2 (by (try simp only [ByteArray.size_append]); omega))
  have s12 : (9223372036854775807 < (q38).size + (q44).size) = False := eq_false (Nat.not_lt.2 (by (try simp only [ByteArray.size_append]); omega))
  have s13 : (9223372036854775807 < q35.size + q11.size + (q1.size + q55.size + q54.size) + (q38.size + q44.size)) = False := eq_false (Nat.not_lt.2 (by (try simp only [ByteArray.size_append]); omega))
  have s14 : (9223372036854775807 < (((q35 ++ q11) ++ ((q1 ++ q55) ++ q54))).size + ((q38 ++ q44)).size) = False := eq_false (Nat.not_lt.2 (by (try simp only [ByteArray.size_append]); omega))
  have s15 : (9223372036854775807 < ((q35 ++ q11) ++ ((q1 ++ q55) ++ q54)).size + (q38 ++ q44).size) = False := eq_false (Nat.not_lt.2 (by (try simp only [ByteArray.size_append]); omega))
  have s16 : (9223372036854775807 < q5001.size + q5002.size) = False := eq_false (Nat.not_lt.2 (by (try simp only [ByteArray.size_append]); omega))
  have s17 : (9223372036854775807 < (q5001).size + (q5002).size) = False := eq_false (Nat.not_lt.2 (by (try simp only [ByteArray.size_append]); omega))
  have s18 : (9223372036854775807 < q35.size + q11.size + (q1.size + q55.size + q54.size) + (q38.size + q44.size) + (q5001.size + q5002.size)) = False := eq_false (Nat.not_lt.2 (by (try simp only [ByteArray.size_append]); omega))
  have s19 : (9223372036854775807 < ((((q35 ++ q11) ++ ((q1 ++ q55) ++ q54)) ++ (q38 ++ q44))).size + ((q5001 ++ q5002)).size) = False := eq_false (Nat.not_lt.2 (by (try simp only [ByteArray.size_append]); omega))
  have s20 : (9223372036854775807 < (((q35 ++ q11) ++ ((q1 ++ q55) ++ q54)) ++ (q38 ++ q44)).size + (q5001 ++ q5002).size) = False := eq_false (Nat.not_lt.2 (by (try simp only [ByteArray.size_append]); omega))
  have s21 : (9223372036854775807 < q35.size + q11.size + (q1.size + q55.size + q54.size) + (q38.size + q44.size) + (q5001.size + q5002.size) + q5003.size) = False := eq_false (Nat.not_lt.2 (by (try simp only [ByteArray.size_append]); omega))
  have s22 : (9223372036854775807 < (((((q35 ++ q11) ++ ((q1 ++ q55) ++ q54)) ++ (q38 ++ q44)) ++ (q5001 ++ q5002))).size + (q5003).size) = False := eq_false (Nat.not_lt.2 (by (try simp only [ByteArray.size_append]); omega))
  have s23 : (9223372036854775807 < ((((q35 ++ q11) ++ ((q1 ++ q55) ++ q54)) ++ (q38 ++ q44)) ++ (q5001 ++ q5002)).size + q5003.size) = False := eq_false (Nat.not_lt.2 (by (try simp only [ByteArray.size_append]); omega))
  have s24 : (9223372036854775807 < q35.size + q11.size + (q1.size + q55.size + q54.size) + (q38.size + q44.size) + (q5001.size + q5002.size) + q5003.size + q5006.size) = False := eq_false (Nat.not_lt.2 (by (try simp only [ByteArray.size_append]); omega))
  have s25 : (9223372036854775807 < ((((((q35 ++ q11) ++ ((q1 ++ q55) ++ q54)) ++ (q38 ++ q44)) ++ (q5001 ++ q5002)) ++ q5003)).size + (q5006).size) = False := eq_false (Nat.not_lt.2 (by (try simp only [ByteArray.size_append]); omega))
  have s26 : (9223372036854775807 < (((((q35 ++ q11) ++ ((q1 ++ q55) ++ q54)) ++ (q38 ++ q44)) ++ (q5001 ++ q5002)) ++ q5003).size + q5006.size) = False := eq_false (Nat.not_lt.2 (by (try simp only [ByteArray.size_append]); omega))
  have s27 : (9223372036854775807 < q35.size + q11.size + (q1.size + q55.size + q54.size) + (q38.size + q44.size) + (q5001.size + q5002.size) + q5003.size + q5004.size) = False := eq_false (Nat.not_lt.2 (by (try simp only [ByteArray.size_append]); omega))
  have s28 : (9223372036854775807 < ((((((q35 ++ q11) ++ ((q1 ++ q55) ++ q54)) ++ (q38 ++ q44)) ++ (q5001 ++ q5002)) ++ q5003)).size + (q5004).size) = False := eq_false (Nat.not_lt.2 (by (try simp only [ByteArray.size_append]); omega))
  have s29 : (9223372036854775807 < (((((q35 ++ q11) ++ ((q1 ++ q55) ++ q54)) ++ (q38 ++ q44)) ++ (q5001 ++ q5002)) ++ q5003).size + q5004.size) = False := eq_false (Nat.not_lt.2 (by (try simp only [ByteArray.size_append]); omega))
  have s30 : (9223372036854775807 < q35.size + q11.size + (q1.size + q55.size + q54.size) + (q38.size + q44.size) + (q5001.size + q5002.size) + q5003.size + q5005.size) = False := eq_false (Nat.not_lt.2 (by (try simp only [ByteArray.size_append]); omega))
  have s31 : (9223372036854775807 < ((((((q35 ++ q11) ++ ((q1 ++ q55) ++ q54)) ++ (q38 ++ q44)) ++ (q5001 ++ q5002)) ++ q5003)).size + (q5005).size) = False := eq_false (Nat.not_lt.2 (by (try simp only [ByteArray.size_append]); omega))
  have s32 : (9223372036854775807 < (((((q35 ++ q11) ++ ((q1 ++ q55) ++ q54)) ++ (q38 ++ q44)) ++ (q5001 ++ q5002)) ++ q5003).size + q5005.size) = False := eq_false (Nat.not_lt.2 (by (try simp only [ByteArray.size_append]); omega))
  have HC := Aside0.mk hC
  have HLn := Aside0.mk hl
  have HA := Aside0.mk ha
  clear es1 es2 es3 es4 ha hi htg hac hsy hl hC e35 z35 l35 e11 z11 l11 e1 z1 l1 e55 z55 l55 e54 z54 l54 e38 z38 l38 e44 z44 l44 e5001 z5001 l5001 e5002 z5002 l5002 e5003 z5003 l5003 e5004 z5004 l5004 e5005 z5005 l5005 e5006 z5006 l5006 h_sd h_q h_p h_al h_st h_en h_rt h_sh
  have HS1 : (W.alloc (.cells #[.int .i64 1, .string i, .string tg, .string ac, .string sy, .int .i64 sd, .int .i64 q, .int .i64 p, .int .i64 al, .int .i64 st, .int .i64 en, .int .i64 rt, .int .i64 sh, .slice A0 l.length c0] 32)).heap.size = W.heap.size + 1 := World.size_alloc _ _
  have K0 := Aside0.mk (blk_new W (.cells #[.int .i64 1, .string i, .string tg, .string ac, .string sy, .int .i64 sd, .int .i64 q, .int .i64 p, .int .i64 al, .int .i64 st, .int .i64 en, .int .i64 rt, .int .i64 sh, .slice A0 l.length c0] 32))
  have B0 : Aside0 (Below W.heap.size W (W.alloc (.cells #[.int .i64 1, .string i, .string tg, .string ac, .string sy, .int .i64 sd, .int .i64 q, .int .i64 p, .int .i64 al, .int .i64 st, .int .i64 en, .int .i64 rt, .int .i64 sh, .slice A0 l.length c0] 32))) := ⟨(Below.refl _ _).alloc (Nat.le_refl _) _⟩
  have HL0 : Aside0 (W.heap.size + 0 < (W.alloc (.cells #[.int .i64 1, .string i, .string tg, .string ac, .string sy, .int .i64 sd, .int .i64 q, .int .i64 p, .int .i64 al, .int .i64 st, .int .i64 en, .int .i64 rt, .int .i64 sh, .slice A0 l.length c0] 32)).heap.size) := ⟨by rw [HS1]; omega⟩
  clear HS1
  go_enter Tryz.func17, Tryz.ntmps17
  go_wp2
  refine start_ (n := 9) (S := fun w' => (∀ ii, w'.cell? ⟨W.heap.size, ii, none⟩ = (#[.int .i64 1, .string i, .string tg, .string ac, .string sy, .int .i64 sd, .int .i64 q, .int .i64 p, .int .i64 al, .int .i64 st, .int .i64 en, .int .i64 rt, .int .i64 sh, .slice A0 l.length c0] : Array Value)[ii]?)) (ds := []) #[false, false, false, false, false, false, false, false, false] (by kernel_rfl) rfl rfl ((fun ii => blk_cell (w := (W.alloc (.cells #[.int .i64 1, .string i, .string tg, .string ac, .string sy, .int .i64 sd, .int .i64 q, .int .i64 p, .int .i64 al, .int .i64 st, .int .i64 en, .int .i64 rt, .int .i64 sh, .slice A0 l.length c0] 32)).drew) K0.out ii)) (fun hHeld => ?_)
  refine pure_ (i := 0) (N := some 6) (v := ?_) (a' := ?_) #[true, false, false, false, false, false, false, false, false] rfl rfl (by kernel_rfl) (fun _ _ _ h => h) (Or.inl ⟨by rfl, ?_⟩) ?_ ?_
  rotate_left
  · intro w'
    go_simp
    with_reducible rfl
  rotate_left
  · simp only [Act.put, List.setIfInBounds_toArray, List.set_cons_zero, List.set_cons_succ, i64_w, i32_w]
    rfl
  refine pure_ (i := 4) (N := some 10) (v := ?_) (a' := ?_) #[true, false, false, false, true, false, false, false, false] rfl rfl (by kernel_rfl) (fun _ _ _ h => h) (Or.inl ⟨by rfl, ?_⟩) ?_ ?_
  rotate_left
  · intro w'
    go_simp
    with_reducible rfl
  rotate_left
  · simp only [Act.put, List.setIfInBounds_toArray, List.set_cons_zero, List.set_cons_succ, i64_w, i32_w]
    rfl
  refine take_ (i := 1) (N := some 7) (v := ?_) (a' := ?_) #[true, true, false, false, true, false, false, false, false] rfl rfl (by kernel_rfl) (fun _ _ _ h => h) (Or.inl ⟨by rfl, ?_⟩) hHeld ?_ ?_
  rotate_left
  · intro w' s0
    go_simp
    with_reducible rfl
  rotate_left
  · simp only [Act.put, List.setIfInBounds_toArray, List.set_cons_zero, List.set_cons_succ, i64_w, i32_w]
    rfl
  refine take_ (i := 5) (N := some 11) (v := ?_) (a' := ?_) #[true, true, false, false, true, true, false, false, false] rfl rfl (by kernel_rfl) (fun _ _ _ h => h) (Or.inl ⟨by rfl, ?_⟩) hHeld ?_ ?_
  rotate_left
  · intro w' s0
    go_simp
    with_reducible rfl
  rotate_left
  · simp only [Act.put, List.setIfInBounds_toArray, List.set_cons_zero, List.set_cons_succ, i64_w, i32_w]
    rfl
  refine one_ (i := 2) (N := some 8) #[true, true, true, false, true, true, false, false, false] rfl rfl (by kernel_rfl) (by decide) (fun K hK => ?_)
  refine goes_ Tryz.func35 (by kernel_rfl) rfl #[.int .i64 1] (by rfl) rfl rfl (by simp only [List.map_toArray, List.map_cons, List.map_nil]; rfl) ?_
  with_reducible refine (HWd.out _).mono ?_
  rintro e w1 ⟨rfl, hb1⟩
  refine ⟨_, rfl, ?_⟩
  have B1 := Aside0.mk (show Below W.heap.size W w1 from (by first | exact B0.out.trans (hb1.mono B0.out.size) | exact (Below.drew B0.out).trans (hb1.mono B0.out.size)))
  have HL1 : Aside0 (W.heap.size + 0 < w1.heap.size) := ⟨Nat.lt_of_lt_of_le HL0.out hb1.size⟩
  refine hK.out _ _ ((fun i => (hb1.cell (p := ⟨W.heap.size, i, none⟩) (Nat.lt_of_le_of_lt (by first | exact Nat.le_refl _ | exact Nat.le_succ _) HL0.out)).trans (hHeld i))) (fun hHeld => ?_)
  clear hK K
  refine norm_ (a' := ?_) ?_ ?_
  rotate_left
  · show Act.put _ (some 8) _ = _
    simp only [Act.put, List.setIfInBounds_toArray, List.set_cons_zero, List.set_cons_succ, i64_w, i32_w]
    rfl
  refine one_ (i := 3) (N := some 9) #[true, true, true, true, true, true, false, false, false] rfl rfl (by kernel_rfl) (by decide) (fun K hK => ?_)
  refine goes_ Tryz.func46 (by kernel_rfl) rfl #[.string ⟨#[51, 53]⟩, .string ⟨#[68]⟩] (by rfl) rfl rfl (by simp only [List.map_toArray, List.map_cons, List.map_nil]; rfl) ?_
  with_reducible refine (HP35.out _).mono ?_
  rintro e w2 ⟨rfl, hd2⟩
  refine ⟨_, rfl, ?_⟩
  have hb2 := hd2.below
  have B2 := Aside0.mk (show Below W.heap.size W w2 from (by first | exact B1.out.trans (hb2.mono B1.out.size) | exact (Below.drew B1.out).trans (hb2.mono B1.out.size)))
  have HL2 : Aside0 (W.heap.size + 0 < w2.heap.size) := ⟨Nat.lt_of_lt_of_le HL1.out hb2.size⟩
  refine hK.out _ _ ((fun i => (hb2.cell (p := ⟨W.heap.size, i, none⟩) (Nat.lt_of_le_of_lt (by first | exact Nat.le_refl _ | exact Nat.le_succ _) HL1.out)).trans (hHeld i))) (fun hHeld => ?_)
  clear hK K
  refine norm_ (a' := ?_) ?_ ?_
  rotate_left
  · show Act.put _ (some 9) _ = _
    simp only [Act.put, List.setIfInBounds_toArray, List.set_cons_zero, List.set_cons_succ, i64_w, i32_w]
    rfl
  refine one_ (i := 6) (N := some 12) #[true, true, true, true, true, true, true, false, false] rfl rfl (by kernel_rfl) (by decide) (fun K hK => ?_)
  refine goes_ Tryz.func46 (by kernel_rfl) rfl #[.string ⟨#[49, 49]⟩, .string i] (by rfl) rfl rfl (by simp only [List.map_toArray, List.map_cons, List.map_nil]; rfl) ?_
  with_reducible refine (HP11.out _).mono ?_
  rintro e w3 ⟨rfl, hd3⟩
  refine ⟨_, rfl, ?_⟩
  have hb3 := hd3.below
  have B3 := Aside0.mk (show Below W.heap.size W w3 from (by first | exact B2.out.trans (hb3.mono B2.out.size) | exact (Below.drew B2.out).trans (hb3.mono B2.out.size)))
  have HL3 : Aside0 (W.heap.size + 0 < w3.heap.size) := ⟨Nat.lt_of_lt_of_le HL2.out hb3.size⟩
  refine hK.out _ _ ((fun i => (hb3.cell (p := ⟨W.heap.size, i, none⟩) (Nat.lt_of_le_of_lt (by first | exact Nat.le_refl _ | exact Nat.le_succ _) HL2.out)).trans (hHeld i))) (fun hHeld => ?_)
  clear hK K
  refine norm_ (a' := ?_) ?_ ?_
  rotate_left
  · show Act.put _ (some 12) _ = _
    simp only [Act.put, List.setIfInBounds_toArray, List.set_cons_zero, List.set_cons_succ, i64_w, i32_w]
    rfl
  refine pure_ (i := 7) (N := some 13) (v := ?_) (a' := ?_) #[true, true, true, true, true, true, true, true, false] rfl rfl (by kernel_rfl) (fun _ _ _ h => h) (Or.inl ⟨by rfl, ?_⟩) ?_ ?_
  rotate_left
  · intro w'
    go_simp
    with_reducible rfl
  rotate_left
  · simp only [Act.put, List.setIfInBounds_toArray, List.set_cons_zero, List.set_cons_succ, i64_w, i32_w]
    rfl
  refine pure_ (i := 8) (N := some 3) (v := ?_) (a' := ?_) #[true, true, true, true, true, true, true, true, true] rfl rfl (by kernel_rfl) (fun _ _ _ h => h) (Or.inl ⟨by rfl, ?_⟩) ?_ ?_
  rotate_left
  · intro w'
    go_simp
    with_reducible rfl
  rotate_left
  · simp only [Act.put, List.setIfInBounds_toArray, List.set_cons_zero, List.set_cons_succ, i64_w, i32_w]
    rfl
  refine done_ (by kernel_rfl) ?_
  have K3 : Aside0 (w3.heap[W.heap.size]? = some (.cells #[.int .i64 1, .string i, .string tg, .string ac, .string sy, .int .i64 sd, .int .i64 q, .int .i64 p, .int .i64 al, .int .i64 st, .int .i64 en, .int .i64 rt, .int .i64 sh, .slice A0 l.length c0] 32 (0, 0))) := ⟨(blk_below (w := w2) (blk_below (w := w1) (blk_below (w := (W.alloc (.cells #[.int .i64 1, .string i, .string tg, .string ac, .string sy, .int .i64 sd, .int .i64 q, .int .i64 p, .int .i64 al, .int .i64 st, .int .i64 en, .int .i64 rt, .int .i64 sh, .slice A0 l.length c0] 32)).drew) K0.out ⟨hb1.os, hb1.tape, hb1.output, hb1.size, hb1.block⟩) ⟨hb2.os, hb2.tape, hb2.output, hb2.size, hb2.block⟩) ⟨hb3.os, hb3.tape, hb3.output, hb3.size, hb3.block⟩)⟩
  (try clear hc)
  have hc := fun i => blk_cell K3.out i
  clear hb1 hb2 hb3
  clear HWd
  go_wp2
  refine start_ (n := 14) (S := fun w' => (∀ ii, w'.cell? ⟨W.heap.size, ii, none⟩ = (#[.int .i64 1, .string i, .string tg, .string ac, .string sy, .int .i64 sd, .int .i64 q, .int .i64 p, .int .i64 al, .int .i64 st, .int .i64 en, .int .i64 rt, .int .i64 sh, .slice A0 l.length c0] : Array Value)[ii]?)) (ds := []) #[false, false, false, false, false, false, false, false, false, false, false, false, false, false] (by kernel_rfl) rfl rfl ((fun ii => blk_cell (w := w3.drew) K3.out ii)) (fun hHeld => ?_)
  refine pure_ (i := 0) (N := some 25) (v := ?_) (a' := ?_) #[true, false, false, false, false, false, false, false, false, false, false, false, false, false] rfl rfl (by kernel_rfl) (fun _ _ _ h => h) (Or.inl ⟨by rfl, ?_⟩) ?_ ?_
  rotate_left
  · intro w'
    go_simp
    with_reducible rfl
  rotate_left
  · simp only [Act.put, List.setIfInBounds_toArray, List.set_cons_zero, List.set_cons_succ, i64_w, i32_w]
    rfl
  refine pure_ (i := 1) (N := some 26) (v := ?_) (a' := ?_) #[true, true, false, false, false, false, false, false, false, false, false, false, false, false] rfl rfl (by kernel_rfl) (fun _ _ _ h => h) (Or.inl ⟨by rfl, ?_⟩) ?_ ?_
  rotate_left
  · intro w'
    go_simp
    with_reducible rfl
  rotate_left
  · simp only [Act.put, List.setIfInBounds_toArray, List.set_cons_zero, List.set_cons_succ, i64_w, i32_w]
    rfl
  refine pure_ (i := 4) (N := some 29) (v := ?_) (a' := ?_) #[true, true, false, false, true, false, false, false, false, false, false, false, false, false] rfl rfl (by kernel_rfl) (fun _ _ _ h => h) (Or.inl ⟨by rfl, ?_⟩) ?_ ?_
  rotate_left
  · intro w'
    go_simp
    with_reducible rfl
  rotate_left
  · simp only [Act.put, List.setIfInBounds_toArray, List.set_cons_zero, List.set_cons_succ, i64_w, i32_w]
    rfl
  refine pure_ (i := 8) (N := some 33) (v := ?_) (a' := ?_) #[true, true, false, false, true, false, false, false, true, false, false, false, false, false] rfl rfl (by kernel_rfl) (fun _ _ _ h => h) (Or.inl ⟨by rfl, ?_⟩) ?_ ?_
  rotate_left
  · intro w'
    go_simp
    with_reducible rfl
  rotate_left
  · simp only [Act.put, List.setIfInBounds_toArray, List.set_cons_zero, List.set_cons_succ, i64_w, i32_w]
    rfl
  refine take_ (i := 2) (N := some 27) (v := ?_) (a' := ?_) #[true, true, true, false, true, false, false, false, true, false, false, false, false, false] rfl rfl (by kernel_rfl) (fun _ _ _ h => h) (Or.inl ⟨by rfl, ?_⟩) hHeld ?_ ?_
  rotate_left
  · intro w' s0
    go_simp
    with_reducible rfl
  rotate_left
  · simp only [Act.put, List.setIfInBounds_toArray, List.set_cons_zero, List.set_cons_succ, i64_w, i32_w]
    rfl
  refine take_ (i := 5) (N := some 30) (v := ?_) (a' := ?_) #[true, true, true, false, true, true, false, false, true, false, false, false, false, false] rfl rfl (by kernel_rfl) (fun _ _ _ h => h) (Or.inl ⟨by rfl, ?_⟩) hHeld ?_ ?_
  rotate_left
  · intro w' s0
    go_simp
    with_reducible rfl
  rotate_left
  · simp only [Act.put, List.setIfInBounds_toArray, List.set_cons_zero, List.set_cons_succ, i64_w, i32_w]
    rfl
  refine take_ (i := 9) (N := some 34) (v := ?_) (a' := ?_) #[true, true, true, false, true, true, false, false, true, true, false, false, false, false] rfl rfl (by kernel_rfl) (fun _ _ _ h => h) (Or.inl ⟨by rfl, ?_⟩) hHeld ?_ ?_
  rotate_left
  · intro w' s0
    go_simp
    with_reducible rfl
  rotate_left
  · simp only [Act.put, List.setIfInBounds_toArray, List.set_cons_zero, List.set_cons_succ, i64_w, i32_w]
    rfl
  refine one_ (i := 3) (N := some 28) #[true, true, true, true, true, true, false, false, true, true, false, false, false, false] rfl rfl (by kernel_rfl) (by decide) (fun K hK => ?_)
  refine goes_ Tryz.func46 (by kernel_rfl) rfl #[.string ⟨#[49]⟩, .string ac] (by rfl) rfl rfl (by simp only [List.map_toArray, List.map_cons, List.map_nil]; rfl) ?_
  with_reducible refine (HP1.out _).mono ?_
  rintro e w4 ⟨rfl, hd4⟩
  refine ⟨_, rfl, ?_⟩
  have hb4 := hd4.below
  have B4 := Aside0.mk (show Below W.heap.size W w4 from (by first | exact B3.out.trans (hb4.mono B3.out.size) | exact (Below.drew B3.out).trans (hb4.mono B3.out.size)))
  have HL4 : Aside0 (W.heap.size + 0 < w4.heap.size) := ⟨Nat.lt_of_lt_of_le HL3.out hb4.size⟩
  refine hK.out _ _ ((fun i => (hb4.cell (p := ⟨W.heap.size, i, none⟩) (Nat.lt_of_le_of_lt (by first | exact Nat.le_refl _ | exact Nat.le_succ _) HL3.out)).trans (hHeld i))) (fun hHeld => ?_)
  clear hK K
  refine norm_ (a' := ?_) ?_ ?_
  rotate_left
  · show Act.put _ (some 28) _ = _
    simp only [Act.put, List.setIfInBounds_toArray, List.set_cons_zero, List.set_cons_succ, i64_w, i32_w]
    rfl
  refine one_ (i := 6) (N := some 31) #[true, true, true, true, true, true, true, false, true, true, false, false, false, false] rfl rfl (by kernel_rfl) (by decide) (fun K hK => ?_)
  refine goes_ Tryz.func46 (by kernel_rfl) rfl #[.string ⟨#[53, 53]⟩, .string sy] (by rfl) rfl rfl (by simp only [List.map_toArray, List.map_cons, List.map_nil]; rfl) ?_
  with_reducible refine (HP55.out _).mono ?_
  rintro e w5 ⟨rfl, hd5⟩
  refine ⟨_, rfl, ?_⟩
  have hb5 := hd5.below
  have B5 := Aside0.mk (show Below W.heap.size W w5 from (by first | exact B4.out.trans (hb5.mono B4.out.size) | exact (Below.drew B4.out).trans (hb5.mono B4.out.size)))
  have HL5 : Aside0 (W.heap.size + 0 < w5.heap.size) := ⟨Nat.lt_of_lt_of_le HL4.out hb5.size⟩
  refine hK.out _ _ ((fun i => (hb5.cell (p := ⟨W.heap.size, i, none⟩) (Nat.lt_of_le_of_lt (by first | exact Nat.le_refl _ | exact Nat.le_succ _) HL4.out)).trans (hHeld i))) (fun hHeld => ?_)
  clear hK K
  refine norm_ (a' := ?_) ?_ ?_
  rotate_left
  · show Act.put _ (some 31) _ = _
    simp only [Act.put, List.setIfInBounds_toArray, List.set_cons_zero, List.set_cons_succ, i64_w, i32_w]
    rfl
  refine pure_ (i := 7) (N := some 32) (v := ?_) (a' := ?_) #[true, true, true, true, true, true, true, true, true, true, false, false, false, false] rfl rfl (by kernel_rfl) (fun _ _ _ h => h) (Or.inl ⟨by rfl, ?_⟩) ?_ ?_
  rotate_left
  · intro w'
    go_simp
    with_reducible rfl
  rotate_left
  · simp only [Act.put, List.setIfInBounds_toArray, List.set_cons_zero, List.set_cons_succ, i64_w, i32_w]
    rfl
  refine one_ (i := 10) (N := some 35) #[true, true, true, true, true, true, true, true, true, true, true, false, false, false] rfl rfl (by kernel_rfl) (by decide) (fun K hK => ?_)
  refine goes_ Tryz.func47 (by kernel_rfl) rfl #[.string ⟨#[53, 52]⟩, .int .i64 sd] (by rfl) rfl rfl (by simp only [List.map_toArray, List.map_cons, List.map_nil]; rfl) ?_
  with_reducible refine (HP54.out _).mono ?_
  rintro e w6 ⟨rfl, hb6⟩
  refine ⟨_, rfl, ?_⟩
  have B6 := Aside0.mk (show Below W.heap.size W w6 from (by first | exact B5.out.trans (hb6.mono B5.out.size) | exact (Below.drew B5.out).trans (hb6.mono B5.out.size)))
  have HL6 : Aside0 (W.heap.size + 0 < w6.heap.size) := ⟨Nat.lt_of_lt_of_le HL5.out hb6.size⟩
  refine hK.out _ _ ((fun i => (hb6.cell (p := ⟨W.heap.size, i, none⟩) (Nat.lt_of_le_of_lt (by first | exact Nat.le_refl _ | exact Nat.le_succ _) HL5.out)).trans (hHeld i))) (fun hHeld => ?_)
  clear hK K
  refine norm_ (a' := ?_) ?_ ?_
  rotate_left
  · show Act.put _ (some 35) _ = _
    simp only [Act.put, List.setIfInBounds_toArray, List.set_cons_zero, List.set_cons_succ, i64_w, i32_w]
    rfl
  refine pure_ (i := 11) (N := some 36) (v := ?_) (a' := ?_) #[true, true, true, true, true, true, true, true, true, true, true, true, false, false] rfl rfl (by kernel_rfl) (fun _ _ _ h => h) (Or.inl ⟨by rfl, ?_⟩) ?_ ?_
  rotate_left
  · intro w'
    go_simp
    with_reducible rfl
  rotate_left
  · simp only [Act.put, List.setIfInBounds_toArray, List.set_cons_zero, List.set_cons_succ, i64_w, i32_w]
    rfl
  refine pure_ (i := 12) (N := some 37) (v := ?_) (a' := ?_) #[true, true, true, true, true, true, true, true, true, true, true, true, true, false] rfl rfl (by kernel_rfl) (fun _ _ _ h => h) (Or.inl ⟨by rfl, ?_⟩) ?_ ?_
  rotate_left
  · intro w'
    go_simp
    with_reducible rfl
  rotate_left
  · simp only [Act.put, List.setIfInBounds_toArray, List.set_cons_zero, List.set_cons_succ, i64_w, i32_w]
    rfl
  refine pure_ (i := 13) (N := some 3) (v := ?_) (a' := ?_) #[true, true, true, true, true, true, true, true, true, true, true, true, true, true] rfl rfl (by kernel_rfl) (fun _ _ _ h => h) (Or.inl ⟨by rfl, ?_⟩) ?_ ?_
  rotate_left
  · intro w'
    go_simp
    with_reducible rfl
  rotate_left
  · simp only [Act.put, List.setIfInBounds_toArray, List.set_cons_zero, List.set_cons_succ, i64_w, i32_w]
    rfl
  refine done_ (by kernel_rfl) ?_
  have K6 : Aside0 (w6.heap[W.heap.size]? = some (.cells #[.int .i64 1, .string i, .string tg, .string ac, .string sy, .int .i64 sd, .int .i64 q, .int .i64 p, .int .i64 al, .int .i64 st, .int .i64 en, .int .i64 rt, .int .i64 sh, .slice A0 l.length c0] 32 (0, 0))) := ⟨(blk_below (w := w5) (blk_below (w := w4) (blk_below (w := w3.drew) K3.out ⟨hb4.os, hb4.tape, hb4.output, hb4.size, hb4.block⟩) ⟨hb5.os, hb5.tape, hb5.output, hb5.size, hb5.block⟩) ⟨hb6.os, hb6.tape, hb6.output, hb6.size, hb6.block⟩)⟩
  (try clear hc)
  have hc := fun i => blk_cell K6.out i
  clear hb4 hb5 hb6
  go_wp2
  refine start_ (n := 10) (S := fun w' => (∀ ii, w'.cell? ⟨W.heap.size, ii, none⟩ = (#[.int .i64 1, .string i, .string tg, .string ac, .string sy, .int .i64 sd, .int .i64 q, .int .i64 p, .int .i64 al, .int .i64 st, .int .i64 en, .int .i64 rt, .int .i64 sh, .slice A0 l.length c0] : Array Value)[ii]?)) (ds := []) #[false, false, false, false, false, false, false, false, false, false] (by kernel_rfl) rfl rfl ((fun ii => blk_cell (w := w6.drew) K6.out ii)) (fun hHeld => ?_)
  refine pure_ (i := 0) (N := some 46) (v := ?_) (a' := ?_) #[true, false, false, false, false, false, false, false, false, false] rfl rfl (by kernel_rfl) (fun _ _ _ h => h) (Or.inl ⟨by rfl, ?_⟩) ?_ ?_
  rotate_left
  · intro w'
    go_simp
    with_reducible rfl
  rotate_left
  · simp only [Act.put, List.setIfInBounds_toArray, List.set_cons_zero, List.set_cons_succ, i64_w, i32_w]
    rfl
  refine pure_ (i := 1) (N := some 47) (v := ?_) (a' := ?_) #[true, true, false, false, false, false, false, false, false, false] rfl rfl (by kernel_rfl) (fun _ _ _ h => h) (Or.inl ⟨by rfl, ?_⟩) ?_ ?_
  rotate_left
  · intro w'
    go_simp
    with_reducible rfl
  rotate_left
  · simp only [Act.put, List.setIfInBounds_toArray, List.set_cons_zero, List.set_cons_succ, i64_w, i32_w]
    rfl
  refine pure_ (i := 4) (N := some 50) (v := ?_) (a' := ?_) #[true, true, false, false, true, false, false, false, false, false] rfl rfl (by kernel_rfl) (fun _ _ _ h => h) (Or.inl ⟨by rfl, ?_⟩) ?_ ?_
  rotate_left
  · intro w'
    go_simp
    with_reducible rfl
  rotate_left
  · simp only [Act.put, List.setIfInBounds_toArray, List.set_cons_zero, List.set_cons_succ, i64_w, i32_w]
    rfl
  refine take_ (i := 2) (N := some 48) (v := ?_) (a' := ?_) #[true, true, true, false, true, false, false, false, false, false] rfl rfl (by kernel_rfl) (fun _ _ _ h => h) (Or.inl ⟨by rfl, ?_⟩) hHeld ?_ ?_
  rotate_left
  · intro w' s0
    go_simp
    with_reducible rfl
  rotate_left
  · simp only [Act.put, List.setIfInBounds_toArray, List.set_cons_zero, List.set_cons_succ, i64_w, i32_w]
    rfl
  refine take_ (i := 5) (N := some 51) (v := ?_) (a' := ?_) #[true, true, true, false, true, true, false, false, false, false] rfl rfl (by kernel_rfl) (fun _ _ _ h => h) (Or.inl ⟨by rfl, ?_⟩) hHeld ?_ ?_
  rotate_left
  · intro w' s0
    go_simp
    with_reducible rfl
  rotate_left
  · simp only [Act.put, List.setIfInBounds_toArray, List.set_cons_zero, List.set_cons_succ, i64_w, i32_w]
    rfl
  refine one_ (i := 3) (N := some 49) #[true, true, true, true, true, true, false, false, false, false] rfl rfl (by kernel_rfl) (by decide) (fun K hK => ?_)
  refine goes_ Tryz.func47 (by kernel_rfl) rfl #[.string ⟨#[51, 56]⟩, .int .i64 q] (by rfl) rfl rfl (by simp only [List.map_toArray, List.map_cons, List.map_nil]; rfl) ?_
  with_reducible refine (HP38.out _).mono ?_
  rintro e w7 ⟨rfl, hb7⟩
  refine ⟨_, rfl, ?_⟩
  have B7 := Aside0.mk (show Below W.heap.size W w7 from (by first | exact B6.out.trans (hb7.mono B6.out.size) | exact (Below.drew B6.out).trans (hb7.mono B6.out.size)))
  have HL7 : Aside0 (W.heap.size + 0 < w7.heap.size) := ⟨Nat.lt_of_lt_of_le HL6.out hb7.size⟩
  refine hK.out _ _ ((fun i => (hb7.cell (p := ⟨W.heap.size, i, none⟩) (Nat.lt_of_le_of_lt (by first | exact Nat.le_refl _ | exact Nat.le_succ _) HL6.out)).trans (hHeld i))) (fun hHeld => ?_)
  clear hK K
  refine norm_ (a' := ?_) ?_ ?_
  rotate_left
  · show Act.put _ (some 49) _ = _
    simp only [Act.put, List.setIfInBounds_toArray, List.set_cons_zero, List.set_cons_succ, i64_w, i32_w]
    rfl
  refine one_ (i := 6) (N := some 52) #[true, true, true, true, true, true, true, false, false, false] rfl rfl (by kernel_rfl) (by decide) (fun K hK => ?_)
  refine goes_ Tryz.func47 (by kernel_rfl) rfl #[.string ⟨#[52, 52]⟩, .int .i64 p] (by rfl) rfl rfl (by simp only [List.map_toArray, List.map_cons, List.map_nil]; rfl) ?_
  with_reducible refine (HP44.out _).mono ?_
  rintro e w8 ⟨rfl, hb8⟩
  refine ⟨_, rfl, ?_⟩
  have B8 := Aside0.mk (show Below W.heap.size W w8 from (by first | exact B7.out.trans (hb8.mono B7.out.size) | exact (Below.drew B7.out).trans (hb8.mono B7.out.size)))
  have HL8 : Aside0 (W.heap.size + 0 < w8.heap.size) := ⟨Nat.lt_of_lt_of_le HL7.out hb8.size⟩
  refine hK.out _ _ ((fun i => (hb8.cell (p := ⟨W.heap.size, i, none⟩) (Nat.lt_of_le_of_lt (by first | exact Nat.le_refl _ | exact Nat.le_succ _) HL7.out)).trans (hHeld i))) (fun hHeld => ?_)
  clear hK K
  refine norm_ (a' := ?_) ?_ ?_
  rotate_left
  · show Act.put _ (some 52) _ = _
    simp only [Act.put, List.setIfInBounds_toArray, List.set_cons_zero, List.set_cons_succ, i64_w, i32_w]
    rfl
  refine pure_ (i := 7) (N := some 53) (v := ?_) (a' := ?_) #[true, true, true, true, true, true, true, true, false, false] rfl rfl (by kernel_rfl) (fun _ _ _ h => h) (Or.inl ⟨by rfl, ?_⟩) ?_ ?_
  rotate_left
  · intro w'
    go_simp
    with_reducible rfl
  rotate_left
  · simp only [Act.put, List.setIfInBounds_toArray, List.set_cons_zero, List.set_cons_succ, i64_w, i32_w]
    rfl
  refine pure_ (i := 8) (N := some 54) (v := ?_) (a' := ?_) #[true, true, true, true, true, true, true, true, true, false] rfl rfl (by kernel_rfl) (fun _ _ _ h => h) (Or.inl ⟨by rfl, ?_⟩) ?_ ?_
  rotate_left
  · intro w'
    go_simp
    with_reducible rfl
  rotate_left
  · simp only [Act.put, List.setIfInBounds_toArray, List.set_cons_zero, List.set_cons_succ, i64_w, i32_w]
    rfl
  refine pure_ (i := 9) (N := some 3) (v := ?_) (a' := ?_) #[true, true, true, true, true, true, true, true, true, true] rfl rfl (by kernel_rfl) (fun _ _ _ h => h) (Or.inl ⟨by rfl, ?_⟩) ?_ ?_
  rotate_left
  · intro w'
    go_simp
    with_reducible rfl
  rotate_left
  · simp only [Act.put, List.setIfInBounds_toArray, List.set_cons_zero, List.set_cons_succ, i64_w, i32_w]
    rfl
  refine done_ (by kernel_rfl) ?_
  have K8 : Aside0 (w8.heap[W.heap.size]? = some (.cells #[.int .i64 1, .string i, .string tg, .string ac, .string sy, .int .i64 sd, .int .i64 q, .int .i64 p, .int .i64 al, .int .i64 st, .int .i64 en, .int .i64 rt, .int .i64 sh, .slice A0 l.length c0] 32 (0, 0))) := ⟨(blk_below (w := w7) (blk_below (w := w6.drew) K6.out ⟨hb7.os, hb7.tape, hb7.output, hb7.size, hb7.block⟩) ⟨hb8.os, hb8.tape, hb8.output, hb8.size, hb8.block⟩)⟩
  (try clear hc)
  have hc := fun i => blk_cell K8.out i
  clear hb7 hb8
  go_wp2
  refine start_ (n := 10) (S := fun w' => (∀ ii, w'.cell? ⟨W.heap.size, ii, none⟩ = (#[.int .i64 1, .string i, .string tg, .string ac, .string sy, .int .i64 sd, .int .i64 q, .int .i64 p, .int .i64 al, .int .i64 st, .int .i64 en, .int .i64 rt, .int .i64 sh, .slice A0 l.length c0] : Array Value)[ii]?)) (ds := []) #[false, false, false, false, false, false, false, false, false, false] (by kernel_rfl) rfl rfl ((fun ii => blk_cell (w := w8.drew) K8.out ii)) (fun hHeld => ?_)
  refine pure_ (i := 0) (N := some 58) (v := ?_) (a' := ?_) #[true, false, false, false, false, false, false, false, false, false] rfl rfl (by kernel_rfl) (fun _ _ _ h => h) (Or.inl ⟨by rfl, ?_⟩) ?_ ?_
  rotate_left
  · intro w'
    go_simp
    with_reducible rfl
  rotate_left
  · simp only [Act.put, List.setIfInBounds_toArray, List.set_cons_zero, List.set_cons_succ, i64_w, i32_w]
    rfl
  refine pure_ (i := 1) (N := some 59) (v := ?_) (a' := ?_) #[true, true, false, false, false, false, false, false, false, false] rfl rfl (by kernel_rfl) (fun _ _ _ h => h) (Or.inl ⟨by rfl, ?_⟩) ?_ ?_
  rotate_left
  · intro w'
    go_simp
    with_reducible rfl
  rotate_left
  · simp only [Act.put, List.setIfInBounds_toArray, List.set_cons_zero, List.set_cons_succ, i64_w, i32_w]
    rfl
  refine pure_ (i := 4) (N := some 62) (v := ?_) (a' := ?_) #[true, true, false, false, true, false, false, false, false, false] rfl rfl (by kernel_rfl) (fun _ _ _ h => h) (Or.inl ⟨by rfl, ?_⟩) ?_ ?_
  rotate_left
  · intro w'
    go_simp
    with_reducible rfl
  rotate_left
  · simp only [Act.put, List.setIfInBounds_toArray, List.set_cons_zero, List.set_cons_succ, i64_w, i32_w]
    rfl
  refine take_ (i := 2) (N := some 60) (v := ?_) (a' := ?_) #[true, true, true, false, true, false, false, false, false, false] rfl rfl (by kernel_rfl) (fun _ _ _ h => h) (Or.inl ⟨by rfl, ?_⟩) hHeld ?_ ?_
  rotate_left
  · intro w' s0
    go_simp
    with_reducible rfl
  rotate_left
  · simp only [Act.put, List.setIfInBounds_toArray, List.set_cons_zero, List.set_cons_succ, i64_w, i32_w]
    rfl
  refine take_ (i := 5) (N := some 63) (v := ?_) (a' := ?_) #[true, true, true, false, true, true, false, false, false, false] rfl rfl (by kernel_rfl) (fun _ _ _ h => h) (Or.inl ⟨by rfl, ?_⟩) hHeld ?_ ?_
  rotate_left
  · intro w' s0
    go_simp
    with_reducible rfl
  rotate_left
  · simp only [Act.put, List.setIfInBounds_toArray, List.set_cons_zero, List.set_cons_succ, i64_w, i32_w]
    rfl
  refine one_ (i := 3) (N := some 61) #[true, true, true, true, true, true, false, false, false, false] rfl rfl (by kernel_rfl) (by decide) (fun K hK => ?_)
  refine goes_ Tryz.func47 (by kernel_rfl) rfl #[.string ⟨#[53, 48, 48, 49]⟩, .int .i64 al] (by rfl) rfl rfl (by simp only [List.map_toArray, List.map_cons, List.map_nil]; rfl) ?_
  with_reducible refine (HP5001.out _).mono ?_
  rintro e w9 ⟨rfl, hb9⟩
  refine ⟨_, rfl, ?_⟩
  have B9 := Aside0.mk (show Below W.heap.size W w9 from (by first | exact B8.out.trans (hb9.mono B8.out.size) | exact (Below.drew B8.out).trans (hb9.mono B8.out.size)))
  have HL9 : Aside0 (W.heap.size + 0 < w9.heap.size) := ⟨Nat.lt_of_lt_of_le HL8.out hb9.size⟩
  refine hK.out _ _ ((fun i => (hb9.cell (p := ⟨W.heap.size, i, none⟩) (Nat.lt_of_le_of_lt (by first | exact Nat.le_refl _ | exact Nat.le_succ _) HL8.out)).trans (hHeld i))) (fun hHeld => ?_)
  clear hK K
  refine norm_ (a' := ?_) ?_ ?_
  rotate_left
  · show Act.put _ (some 61) _ = _
    simp only [Act.put, List.setIfInBounds_toArray, List.set_cons_zero, List.set_cons_succ, i64_w, i32_w]
    rfl
  refine one_ (i := 6) (N := some 64) #[true, true, true, true, true, true, true, false, false, false] rfl rfl (by kernel_rfl) (by decide) (fun K hK => ?_)
  refine goes_ Tryz.func47 (by kernel_rfl) rfl #[.string ⟨#[53, 48, 48, 50]⟩, .int .i64 st] (by rfl) rfl rfl (by simp only [List.map_toArray, List.map_cons, List.map_nil]; rfl) ?_
  with_reducible refine (HP5002.out _).mono ?_
  rintro e w10 ⟨rfl, hb10⟩
  refine ⟨_, rfl, ?_⟩
  have B10 := Aside0.mk (show Below W.heap.size W w10 from (by first | exact B9.out.trans (hb10.mono B9.out.size) | exact (Below.drew B9.out).trans (hb10.mono B9.out.size)))
  have HL10 : Aside0 (W.heap.size + 0 < w10.heap.size) := ⟨Nat.lt_of_lt_of_le HL9.out hb10.size⟩
  refine hK.out _ _ ((fun i => (hb10.cell (p := ⟨W.heap.size, i, none⟩) (Nat.lt_of_le_of_lt (by first | exact Nat.le_refl _ | exact Nat.le_succ _) HL9.out)).trans (hHeld i))) (fun hHeld => ?_)
  clear hK K
  refine norm_ (a' := ?_) ?_ ?_
  rotate_left
  · show Act.put _ (some 64) _ = _
    simp only [Act.put, List.setIfInBounds_toArray, List.set_cons_zero, List.set_cons_succ, i64_w, i32_w]
    rfl
  refine pure_ (i := 7) (N := some 65) (v := ?_) (a' := ?_) #[true, true, true, true, true, true, true, true, false, false] rfl rfl (by kernel_rfl) (fun _ _ _ h => h) (Or.inl ⟨by rfl, ?_⟩) ?_ ?_
  rotate_left
  · intro w'
    go_simp
    with_reducible rfl
  rotate_left
  · simp only [Act.put, List.setIfInBounds_toArray, List.set_cons_zero, List.set_cons_succ, i64_w, i32_w]
    rfl
  refine pure_ (i := 8) (N := some 66) (v := ?_) (a' := ?_) #[true, true, true, true, true, true, true, true, true, false] rfl rfl (by kernel_rfl) (fun _ _ _ h => h) (Or.inl ⟨by rfl, ?_⟩) ?_ ?_
  rotate_left
  · intro w'
    go_simp
    with_reducible rfl
  rotate_left
  · simp only [Act.put, List.setIfInBounds_toArray, List.set_cons_zero, List.set_cons_succ, i64_w, i32_w]
    rfl
  refine pure_ (i := 9) (N := some 3) (v := ?_) (a' := ?_) #[true, true, true, true, true, true, true, true, true, true] rfl rfl (by kernel_rfl) (fun _ _ _ h => h) (Or.inl ⟨by rfl, ?_⟩) ?_ ?_
  rotate_left
  · intro w'
    go_simp
    with_reducible rfl
  rotate_left
  · simp only [Act.put, List.setIfInBounds_toArray, List.set_cons_zero, List.set_cons_succ, i64_w, i32_w]
    rfl
  refine done_ (by kernel_rfl) ?_
  have K10 : Aside0 (w10.heap[W.heap.size]? = some (.cells #[.int .i64 1, .string i, .string tg, .string ac, .string sy, .int .i64 sd, .int .i64 q, .int .i64 p, .int .i64 al, .int .i64 st, .int .i64 en, .int .i64 rt, .int .i64 sh, .slice A0 l.length c0] 32 (0, 0))) := ⟨(blk_below (w := w9) (blk_below (w := w8.drew) K8.out ⟨hb9.os, hb9.tape, hb9.output, hb9.size, hb9.block⟩) ⟨hb10.os, hb10.tape, hb10.output, hb10.size, hb10.block⟩)⟩
  (try clear hc)
  have hc := fun i => blk_cell K10.out i
  clear hb9 hb10
  go_upto_region 12 with (go_at_call 47; ((with_reducible refine (HP5003.out _).mono ?_)); rintro e w11 ⟨rfl, hb11⟩; have n0_ := Aside0.mk (blk_below K10.out hb11); have n1_ := Aside0.mk (B10.out.trans (hb11.mono B10.out.size)); have n2_ : Aside0 (W.heap.size + 0 < w11.heap.size) := ⟨Nat.lt_of_lt_of_le HL10.out hb11.size⟩; clear hb11; (try clear hc); have K11 := n0_; have B11 := n1_; have HL11 := n2_; clear n0_ n1_ n2_; have hc := fun i => blk_cell K11.out i)
  rcases (show al = 1 ∨ al = 2 ∨ al = 3 ∨ al = 4 by have := HA.out; omega) with ha | ha | ha | ha
  · have g2 : (al == 2) = false := by rw [ha]; rfl
    have g3 : (al == 3) = false := by rw [ha]; rfl
    have g4 : (al == 4) = false := by rw [ha]; rfl
    have ES := Aside0.mk (ES1.out ha)
    clear ES1 ES2 ES3 ES4 HA ha
    go_wp2
    go_ret
    exact ⟨by rw [← ES.out]; rfl, B11.out⟩
  · have g2 : (al == 2) = true := by rw [ha]; rfl
    have g3 : (al == 3) = false := by rw [ha]; rfl
    have g4 : (al == 4) = false := by rw [ha]; rfl
    have ES := Aside0.mk (ES2.out ha)
    clear ES1 ES2 ES3 ES4 HA ha
    go_wp2
    go_loopw [4, 5] (fun v4 v5 wr => ∃ j : Nat, v5 = .int .i64 (j : Int) ∧ j ≤ l.length ∧ v4 = .string (jtF l j) ∧ Aside0 (Below W.heap.size W wr) ∧ Aside0 (wr.heap[W.heap.size]? = some (.cells #[.int .i64 1, .string i, .string tg, .string ac, .string sy, .int .i64 sd, .int .i64 q, .int .i64 p, .int .i64 al, .int .i64 st, .int .i64 en, .int .i64 rt, .int .i64 sh, .slice A0 l.length c0] 32 (0, 0))) ∧ Aside0 (W.heap.size + 0 < wr.heap.size)) (fun _ v5 _ => l.length - (intOf v5).toNat)
    case atStart => exact ⟨0, rfl, Nat.zero_le _, rfl, B11, K11, HL11⟩
    case round =>
      clear hc K11 B11 HL11
      obtain ⟨j, rfl, hj, rfl, B11, K11, HL11⟩ := hrel
      have hc := fun i => blk_cell K11.out i
      by_cases hlt : j < l.length
      · obtain ⟨ad, hA, q0⟩ := Kd.at_int (Kd.C_below HC.out B11.out) (j : Int) (by omega) (by omega)
        have hrd : rd l (j : Int) = l[j] := by unfold rd; rw [Int.toNat_natCast, List.getD_eq_getElem?_getD, List.getElem?_eq_getElem hlt]; rfl
        have hti : ((j : Int)).toNat = j := Int.toNat_natCast j
        rw [hti, hrd] at q0
        have k1 : decide ((j : Int) < (l.length : Int)) = true := by rw [decide_eq_true_eq]; omega
        have k2 : (0 : Int) ≤ (j : Int) ∧ (j : Int) < (l.length : Int) := by omega
        have hw1 : wrap64 ((j : Int) + 1) = (j : Int) + 1 := w64 (by omega) (by have := HLn.out.1; omega)
        have hx : i63 l[j] := HLn.out.2 _ (List.getElem_mem hlt)
        have HDg : Aside0 (∀ X, Calls Tryz.prog 48 #[.int .i64 l[j]] X fun e w' => e = .returned (.string (digitsB l[j])) ∧ Below X.heap.size X w') := ⟨fun X => spigotref08_Digits.calls _ _ X (by unfold spigotref08_Digits.f; rw [if_pos (show 0 ≤ l[j] ∧ l[j] ≤ 9223372036854775807 from hx)])⟩
        have hs1 := jtF_size l j (by omega) HLn.out
        have hs2 := digitsB_20 l[j] hx.2
        have hnx : 0 < j → (jtF l j ++ (⟨#[44]⟩ : ByteArray)) ++ digitsB l[j] = jtF l (j + 1) := fun h => jtF_succ l j hlt h
        have hnz : j = 0 → (⟨#[]⟩ : ByteArray) ++ digitsB l[j] = jtF l (j + 1) := by rintro rfl; exact jtF_one l hlt
        have hj0 : j = 0 → jtF l j = ⟨#[]⟩ := by rintro rfl; rfl
        generalize l[j] = x at *
        generalize digitsB x = d at *
        generalize jtF l j = cj at *
        have z44 : (⟨#[44]⟩ : ByteArray).size = 1 := rfl
        have s90 : (9223372036854775807 < cj.size + 1) = False := eq_false (Nat.not_lt.2 (by omega))
        have s91 : (9223372036854775807 < cj.size + (⟨#[44]⟩ : ByteArray).size) = False := eq_false (Nat.not_lt.2 (by omega))
        have s92 : (9223372036854775807 < cj.size + 1 + d.size) = False := eq_false (Nat.not_lt.2 (by omega))
        have s93 : (9223372036854775807 < (cj ++ (⟨#[44]⟩ : ByteArray)).size + d.size) = False := eq_false (Nat.not_lt.2 (by rw [ByteArray.size_append]; omega))
        have s94 : (9223372036854775807 < d.size) = False := eq_false (Nat.not_lt.2 (by omega))
        have s95 : (9223372036854775807 < (⟨#[]⟩ : ByteArray).size + d.size) = False := eq_false (Nat.not_lt.2 (by show 0 + d.size ≤ _; omega))
        have s96 : (9223372036854775807 < 0 + d.size) = False := eq_false (Nat.not_lt.2 (by omega))
        subst hA
        clear hx hrd hs1 hs2 z44
        rcases Nat.eq_zero_or_pos j with h0 | h0
        · have HNx := Aside0.mk (hnz h0)
          obtain rfl := hj0 h0
          have k3 : decide ((0 : Int) < (j : Int)) = false := by rw [decide_eq_false_iff_not]; omega
          have k4 : decide (0 < j) = false := by rw [decide_eq_false_iff_not]; omega
          clear hnx hnz hj0 h0
          go_wp2_with (go_at_call 48; ((with_reducible refine (HDg.out _).mono ?_)); rintro e w50 ⟨rfl, hb50⟩; have K50 := Aside0.mk (blk_below K11.out hb50); have B50 := Aside0.mk (B11.out.trans (hb50.mono B11.out.size)); have HL50 : Aside0 (W.heap.size + 0 < w50.heap.size) := ⟨Nat.lt_of_lt_of_le HL11.out hb50.size⟩; clear hb50)
          rw [hw1]
          refine ⟨⟨j + 1, by rw [show ((j + 1 : Nat) : Int) = (j : Int) + 1 by omega], by omega, by rw [← HNx.out], B50, K50, HL50⟩, ?_⟩
          show l.length - ((j : Int) + 1).toNat < l.length - ((j : Int)).toNat
          omega
        · have HNx := Aside0.mk (hnx h0)
          have k3 : decide ((0 : Int) < (j : Int)) = true := by rw [decide_eq_true_eq]; omega
          have k4 : decide (0 < j) = true := by rw [decide_eq_true_eq]; omega
          clear hnx hnz hj0 h0
          go_wp2_with (go_at_call 48; ((with_reducible refine (HDg.out _).mono ?_)); rintro e w50 ⟨rfl, hb50⟩; have K50 := Aside0.mk (blk_below K11.out hb50); have B50 := Aside0.mk (B11.out.trans (hb50.mono B11.out.size)); have HL50 : Aside0 (W.heap.size + 0 < w50.heap.size) := ⟨Nat.lt_of_lt_of_le HL11.out hb50.size⟩; clear hb50)
          rw [hw1]
          refine ⟨⟨j + 1, by rw [show ((j + 1 : Nat) : Int) = (j : Int) + 1 by omega], by omega, by rw [← HNx.out], B50, K50, HL50⟩, ?_⟩
          show l.length - ((j : Int) + 1).toNat < l.length - ((j : Int)).toNat
          omega
      · have k1 : decide ((j : Int) < (l.length : Int)) = false := by rw [decide_eq_false_iff_not]; omega
        obtain rfl : j = l.length := by omega
        rw [jtF_all]
        go_wp2_with (go_at_call 46; ((with_reducible refine (HP5006.out _).mono ?_)); rintro e w12 ⟨rfl, hd12⟩; have hb12 := hd12.below; clear hd12; have n0_ := Aside0.mk (blk_below K11.out hb12); have n1_ := Aside0.mk (B11.out.trans (hb12.mono B11.out.size)); have n2_ : Aside0 (W.heap.size + 0 < w12.heap.size) := ⟨Nat.lt_of_lt_of_le HL11.out hb12.size⟩; clear hb12; (try clear hc); have K12 := n0_; have B12 := n1_; have HL12 := n2_; clear n0_ n1_ n2_; have hc := fun i => blk_cell K12.out i)
        go_ret
        exact ⟨by rw [← ES.out]; rfl, B12.out⟩
  · have g2 : (al == 2) = false := by rw [ha]; rfl
    have g3 : (al == 3) = true := by rw [ha]; rfl
    have g4 : (al == 4) = false := by rw [ha]; rfl
    have ES := Aside0.mk (ES3.out ha)
    clear ES1 ES2 ES3 ES4 HA ha
    go_wp2_with (go_at_call 47; ((with_reducible refine (HP5004.out _).mono ?_)); rintro e w12 ⟨rfl, hb12⟩; have n0_ := Aside0.mk (blk_below K11.out hb12); have n1_ := Aside0.mk (B11.out.trans (hb12.mono B11.out.size)); have n2_ : Aside0 (W.heap.size + 0 < w12.heap.size) := ⟨Nat.lt_of_lt_of_le HL11.out hb12.size⟩; clear hb12; (try clear hc); have K12 := n0_; have B12 := n1_; have HL12 := n2_; clear n0_ n1_ n2_; have hc := fun i => blk_cell K12.out i)
    go_ret
    exact ⟨by rw [← ES.out]; rfl, B12.out⟩
  · have g2 : (al == 2) = false := by rw [ha]; rfl
    have g3 : (al == 3) = false := by rw [ha]; rfl
    have g4 : (al == 4) = true := by rw [ha]; rfl
    have ES := Aside0.mk (ES4.out ha)
    clear ES1 ES2 ES3 ES4 HA ha
    go_wp2_with (go_at_call 47; ((with_reducible refine (HP5005.out _).mono ?_)); rintro e w12 ⟨rfl, hb12⟩; have n0_ := Aside0.mk (blk_below K11.out hb12); have n1_ := Aside0.mk (B11.out.trans (hb12.mono B11.out.size)); have n2_ : Aside0 (W.heap.size + 0 < w12.heap.size) := ⟨Nat.lt_of_lt_of_le HL11.out hb12.size⟩; clear hb12; (try clear hc); have K12 := n0_; have B12 := n1_; have HL12 := n2_; clear n0_ n1_ n2_; have hc := fun i => blk_cell K12.out i)
    go_ret
    exact ⟨by rw [← ES.out]; rfl, B12.out⟩
theorem form12_walk (a : AskV) (A : Option Addr) (c : Nat) (W : World) (h : RightA a) (hC : Kd.C (Kd.int .i64) W A a.f13.length a.f13) (hc : a.f13.length ≤ c) (hz : a.f1.size ≤ 200 ∧ a.f2.size ≤ 200 ∧ a.f3.size ≤ 200 ∧ a.f4.size ≤ 200) (hl : numsI a.f13) :
    Calls Tryz.prog 17 #[.agg #[.int .i64 a.f0, .string a.f1, .string a.f2, .string a.f3, .string a.f4, .int .i64 a.f5, .int .i64 a.f6, .int .i64 a.f7, .int .i64 a.f8, .int .i64 a.f9, .int .i64 a.f10, .int .i64 a.f11, .int .i64 a.f12, .slice A a.f13.length c]] W fun e w' => e = .returned (.string ⟨((((askF a).map pairF).map fieldL).flatten).toArray⟩) ∧ Below W.heap.size W w' := by
  obtain ⟨f0, f1, f2, f3, f4, f5, f6, f7, f8, f9, f10, f11, f12, f13⟩ := a
  obtain ⟨hk, h1, hr⟩ := h
  unfold FreshA BareA WorthA AlgoA at hr
  simp only at hk h1 hr hz hl hC hc
  rcases hr with ⟨rfl, hac, hsy, htg, hsd, hw, hst, hsp, hal⟩ | ⟨hn1, htg, ⟨h3, h4, h5, h8, h9, h11, h12, h13⟩, hw⟩
  · exact form12_1 f5 f6 f7 f8 f9 f10 f11 f12 f1 f2 f3 f4 A c f13 W hC hc hl hz.1 hz.2.1 hz.2.2.1 hz.2.2.2 (by unfold i63; omega) (by unfold i63; omega) (by unfold i63; omega) (by unfold i63; omega) (by unfold i63; omega) (by unfold i63; omega) (by unfold i63; omega) (by unfold i63; omega) (by omega)
  · exact form12_x f0 f5 f6 f7 f8 f9 f10 f11 f12 f1 f2 f3 f4 A c f13 W hC hc hl hz.1 hz.2.1 hz.2.2.1 hz.2.2.2 (by unfold i63; omega) (by unfold i63; omega) (by unfold i63; omega) (by unfold i63; omega) (by unfold i63; omega) (by unfold i63; omega) (by unfold i63; omega) (by unfold i63; omega) hk hn1 (by omega) (by omega) (by omega)
end Go.Proofs.YtgfigkfcmkdjdaaGreatDoor.B
end
