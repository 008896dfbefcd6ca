/- A message in which one byte of the body is another one is refused. -/
import Derived.Test.YtgknfdjfgemceaaDoorOwnWireTells
namespace Go.Proofs.YtgknfdjfgemceaaDoor.Pure
open Go.RowKit Go.Proofs.YtgknfdjfgemceaaDoor.Q Go.Proofs.YtgknfdjfgemceaaDoorW.PrintWords Go.Proofs.YtgknfdjfgemceaaDoorW.PrintLast Go.Proofs.YtgknfdjfgemceaaDoor.wireTells
set_option linter.unusedVariables false
set_option linter.unusedSimpArgs false
theorem threeL_inj {a b : Nat} (ha : a < 256) (hb : b < 256) (h : threeL a = threeL b) : a = b := by
  unfold threeL at h
  injection h with h1 h
  injection h with h2 h
  injection h with h3 h
  have e1 := congrArg UInt8.toNat h1
  have e2 := congrArg UInt8.toNat h2
  have e3 := congrArg UInt8.toNat h3
  rw [ofNat_toNat_small (by omega), ofNat_toNat_small (by omega)] at e1 e2 e3
  omega
/-- A byte of the body is another one: it is refused. -/
theorem openL_tells (a b : List UInt8) (x y : UInt8) (h1 : 1 ≤ (a ++ x :: b).length) (h2 : (a ++ x :: b).length ≤ 4096) (hxy : x ≠ y) :
    (openL (begL ++ (digitsN (a ++ x :: b).length ++ 1 :: (a ++ y :: b)) ++ trailL (begL ++ (digitsN (a ++ x :: b).length ++ 1 :: (a ++ x :: b))))).2.2 ≠ 0 := by
  intro h
  have hle : (a ++ y :: b).length = (a ++ x :: b).length := by simp
  generalize hn : (a ++ x :: b).length = n at *
  generalize ht : trailL (begL ++ (digitsN n ++ 1 :: (a ++ x :: b))) = tr at *
  generalize hs : begL ++ (digitsN n ++ 1 :: (a ++ y :: b)) ++ tr = s at *
  have hbl : begL.length = 12 := rfl
  have es : s = begL ++ (digitsN n ++ 1 :: ((a ++ y :: b) ++ tr)) := by rw [← hs]; simp
  have hw0 : wordL begL s = 0 := by rw [es]; exact wordL_pre _ _
  have hl : lenL (s.drop 12) true 0 = (n, (digitsN n).length + 1, 0) := by
    rw [es, ← hbl, List.drop_left, lenL_form _ _ h1 h2]
  have hhd : s.take (12 + ((digitsN n).length + 1) + n) = begL ++ (digitsN n ++ 1 :: (a ++ y :: b)) := by
    rw [← hs]; exact List.take_left' (by simp only [List.length_append, List.length_cons, hbl] at hle ⊢; omega)
  have htl : s.drop (12 + ((digitsN n).length + 1) + n) = tr := by
    rw [← hs]; exact List.drop_left' (by simp only [List.length_append, List.length_cons, hbl] at hle ⊢; omega)
  have htr : tr.length = 7 := by rw [← ht]; exact trailL_len _
  unfold openL at h
  simp only [hl, hhd, htl] at h
  rw [if_neg (by rw [hw0]; simp), if_neg (by simp)] at h
  split at h
  · exact absurd h (by decide)
  · split at h
    · exact absurd h (by decide)
    · rename_i _ g
      have g2 : tr = trailL (begL ++ (digitsN n ++ 1 :: (a ++ y :: b))) := by
        rw [List.take_of_length_le (by omega)] at g
        exact Classical.not_not.1 g
      rw [← ht] at g2
      unfold trailL at g2
      have g3 := List.append_cancel_right (List.append_cancel_left g2)
      have g4 := threeL_inj (Nat.mod_lt _ (by decide)) (Nat.mod_lt _ (by decide)) g3
      simp only [bsum_append, bsum_cons] at g4
      have hx := u8_lt x
      have hy := u8_lt y
      have : x.toNat ≠ y.toNat := fun e => hxy (u8_ext e)
      omega
theorem tellsEx (s : ByteArray) (i : Nat) (x : Int) (h : i < s.data.toList.length) : ((s.extract 0 i ++ strOfNums [x]) ++ s.extract (i + 1) s.size).data.toList = s.data.toList.take i ++ UInt8.ofNat x.toNat :: s.data.toList.drop (i + 1) := by
  have e1 : (s.extract 0 i).data.toList = s.data.toList.take i := by simp
  have e2 : (s.extract (i + 1) s.size).data.toList = s.data.toList.drop (i + 1) := by rw [ByteArray.data_extract, Array.toList_extract, List.extract_eq_take_drop]; exact List.take_of_length_le (by rw [List.length_drop, size_list]; omega)
  rw [ByteArray.data_append, ByteArray.data_append, Array.toList_append, Array.toList_append, e1, e2]
  simp [strOfNums]
theorem WireTells : Go.Proofs.YtgknfdjfgemceaaDoor.wireTells.P := by
  intro l0 a1 a2 hok hw1 hw2
  have hb1 := Go.bounds_i64 hw1
  have hb2 : 0 ≤ a2 ∧ a2 ≤ 255 := by
    have h := hw2; simp only [Lit.wf, Bool.and_eq_true, decide_eq_true_eq] at h; exact h
  refine ⟨3, ?_⟩
  unfold spigotlaw10_WireTells.f spigotlaw10_awake.f
  simp only [Option.bind_some, if_true]
  by_cases c0 : (l0.length : Int) < 1
  · rw [if_pos c0]; simp [spigotlaw10_WireTells.j0]
  rw [if_neg c0]
  by_cases c1 : (l0.length : Int) > 20
  · rw [if_pos c1]; simp [spigotlaw10_WireTells.j0]
  rw [if_neg c1]
  by_cases c3 : a1 < 0
  · rw [decide_eq_true c3]; simp [spigotlaw10_WireTells.j0]
  rw [decide_eq_false c3]
  simp only [spigotlaw10_WireTells.j0, Bool.false_eq_true, if_false]
  have hsm : smallF l0 = true := by
    unfold smallF; rw [List.all_eq_true]; intro x hx; rw [decide_eq_true_eq]; exact (hok x hx).2
  unfold tag_Forms.f
  rw [if_pos hsm]
  have hall : allFormsL (l0.map pairF) = formsL (l0.map pairF) := by unfold allFormsL; rw [if_neg (by rw [List.length_map]; omega)]
  rw [hall]
  simp only [Option.bind_some]
  unfold wire_Seal.f
  simp only [Option.bind_some]
  by_cases e : (formsL (l0.map pairF)).2 = 0
  · have hfd := fieldsL_formed (l0.map pairF) 0 0 e (by rw [List.length_map]; omega)
    rw [e, if_pos (by rfl)]
    generalize (formsL (l0.map pairF)).1 = body at hfd
    have hz : (⟨body.toArray⟩ : ByteArray).size = body.length := sz_lit _
    unfold sealB
    rw [hz, hfd]
    simp only [if_true]
    by_cases c : 1 ≤ body.length ∧ body.length ≤ 4096
    · rw [if_pos c]
      have hml := msgL_len body
      have hdl : (digitsN body.length).length ≤ 4 := digitsN_len 3 body.length (by omega)
      have hm0 : (⟨(msgL body).toArray⟩ : ByteArray).size = (msgL body).length := sz_lit _
      have hmod : Int.tmod a1 (body.length : Int) = ((a1.toNat % body.length : Nat) : Int) := by
        obtain ⟨m, rfl⟩ := Int.eq_ofNat_of_zero_le (show 0 ≤ a1 by omega)
        rw [Int.toNat_natCast]; rfl
      have hlt : a1.toNat % body.length < body.length := Nat.mod_lt _ (by omega)
      simp only [spigotlaw10_WireTells.j1, bne_self_eq_false, Bool.false_eq_true, if_false, hz, hm0, hmod]
      generalize a1.toNat % body.length = p at hlt
      have hsplit : body = body.take p ++ body[p] :: body.drop (p + 1) := by rw [← List.drop_eq_getElem_cons hlt, List.take_append_drop]
      have hs : msgL body = (begL ++ (digitsN body.length ++ 1 :: body.take p)) ++ body[p] :: (body.drop (p + 1) ++ trailL (begL ++ (digitsN body.length ++ 1 :: body))) := by
        have h0 : (begL ++ (digitsN body.length ++ 1 :: body.take p)) ++ body[p] :: body.drop (p + 1) = begL ++ (digitsN body.length ++ 1 :: body) := by
          rw [List.append_assoc, List.append_assoc, List.cons_append, ← hsplit]
        have h1 : ∀ tr : List UInt8, begL ++ (digitsN body.length ++ 1 :: body) ++ tr = (begL ++ (digitsN body.length ++ 1 :: body.take p)) ++ body[p] :: (body.drop (p + 1) ++ tr) := fun tr => by rw [← h0, List.append_assoc, List.cons_append]
        unfold msgL
        exact h1 _
      have hu : (begL ++ (digitsN body.length ++ 1 :: body.take p)).length = 12 + ((digitsN body.length).length + 1) + p := by
        have hbl : begL.length = 12 := rfl
        simp only [List.length_append, List.length_cons, hbl, List.length_take]; omega
      have hidx : wrap64 (wrap64 (wrap64 (((msgL body).length : Int) - (body.length : Int)) - 7) + (p : Int)) = (((begL ++ (digitsN body.length ++ 1 :: body.take p)).length : Nat) : Int) := by
        rw [w64 (x := ((msgL body).length : Int) - (body.length : Int)) (by omega) (by omega), w64 (x := ((msgL body).length : Int) - (body.length : Int) - 7) (by omega) (by omega), w64 (by omega) (by omega), hu]
        omega
      rw [hidx]
      have htell := openL_tells (body.take p) (body.drop (p + 1)) body[p] (UInt8.ofNat a2.toNat)
      rw [← hsplit] at htell
      have htell2 := htell c.1 c.2
      clear htell
      generalize hM : (⟨(msgL body).toArray⟩ : ByteArray) = M at hm0
      have hMl : M.data.toList = msgL body := by rw [← hM]
      rw [hs] at hMl
      generalize trailL (begL ++ (digitsN body.length ++ 1 :: body)) = tr at hMl htell2
      have hnew : begL ++ (digitsN body.length ++ 1 :: (body.take p ++ UInt8.ofNat a2.toNat :: body.drop (p + 1))) ++ tr = (begL ++ (digitsN body.length ++ 1 :: body.take p)) ++ UInt8.ofNat a2.toNat :: (body.drop (p + 1) ++ tr) := by simp
      rw [hnew] at htell2
      generalize begL ++ (digitsN body.length ++ 1 :: body.take p) = u at hMl htell2 hu
      generalize body.drop (p + 1) ++ tr = v at hMl htell2
      generalize body[p] = x at hMl htell2
      have hsz : M.size = (msgL body).length := hm0
      have hl : u.length < M.data.toList.length := by rw [hMl]; simp
      have hlM : M.data.toList.length = M.size := rfl
      have hx : M.data.toList[u.length] = x := by simp [hMl]
      rw [if_neg (by omega), if_pos (by omega), if_pos (by omega), bt_get M u.length hl, hx]
      by_cases g : (x.toNat : Int) = a2
      · rw [if_pos g]
      · rw [if_neg g, if_pos (by omega), w64 (x := (u.length : Int) + 1) (by omega) (by omega), Int.toNat_natCast, show ((u.length : Int) + 1).toNat = u.length + 1 by omega]
        simp only [Option.bind_some]
        rw [← hsz]
        have z3 : (strOfNums [a2]).size = 1 := by rw [strOfNums_size]; rfl
        rw [if_pos (by rw [ByteArray.size_extract]; omega), if_pos (by omega), if_pos (by omega), if_pos (by rw [ByteArray.size_append, ByteArray.size_extract, ByteArray.size_extract]; omega)]
        unfold wire_Open.f
        rw [if_pos (by rw [ByteArray.size_append, ByteArray.size_append, ByteArray.size_extract, ByteArray.size_extract]; omega), tellsEx M u.length a2 hl, hMl, List.take_left, show (u ++ x :: v).drop (u.length + 1) = v by rw [← List.drop_drop, List.drop_left]; rfl]
        have hne := htell2 (fun q => g (by rw [q, ofNat_toNat_small (by omega)]; omega))
        obtain ⟨f1, f2⟩ := openL_fail hne
        simp only [Option.bind_some]
        rw [if_neg (by omega), f1, f2, ByteArray.toList_eq]
        rfl
    · rw [if_neg c]
      simp only [spigotlaw10_WireTells.j1]
      rw [if_pos (by decide)]
  · rw [if_neg (by omega)]
    simp only [spigotlaw10_WireTells.j1, if_true]

end Go.Proofs.YtgknfdjfgemceaaDoor.Pure
