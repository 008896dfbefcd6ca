/- What was sealed is opened, with anything behind it; cut off anywhere it is short. -/
import Derived.Test.YtgknfdjfgemceaaDoorOwnWireBack
namespace Go.Proofs.YtgknfdjfgemceaaDoor.Pure
open Go.RowKit Go.Proofs.YtgknfdjfgemceaaDoor.Q Go.Proofs.YtgknfdjfgemceaaDoorW.PrintWords Go.Proofs.YtgknfdjfgemceaaDoorW.PrintLast Go.Proofs.YtgknfdjfgemceaaDoor.wireBack
set_option linter.unusedVariables false
set_option linter.unusedSimpArgs false
/-- Cut off anywhere a message is short. -/
theorem openL_cut (body : List UInt8) (h1 : 1 ≤ body.length) (h2 : body.length ≤ 4096) (p : Nat) (hp : p < (msgL body).length) : (openL ((msgL body).take p)).2.2 = 100 := by
  have e0 : msgL body = begL ++ (digitsN body.length ++ 1 :: (body ++ trailL (begL ++ (digitsN body.length ++ 1 :: body)))) := by unfold msgL; simp
  have hlen := msgL_len body
  by_cases c1 : p < 12
  · have hw : wordL begL ((msgL body).take p) = 100 := by
      apply wordL_short
      · rw [List.length_take]; show min p _ < 12; omega
      · have hbl : begL.length = 12 := rfl
        rw [e0, List.take_append_of_le_length (by omega), List.length_take, Nat.min_eq_left (by omega)]
    unfold openL
    rw [if_pos (by rw [hw]; decide)]; exact hw
  · have hbl : begL.length = 12 := rfl
    have hw : (msgL body).take p = begL ++ (digitsN body.length ++ 1 :: (body ++ trailL (begL ++ (digitsN body.length ++ 1 :: body)))).take (p - 12) := by
      rw [e0, List.take_append, hbl, List.take_of_length_le (by omega)]
    have hd : ((msgL body).take p).drop 12 = (digitsN body.length ++ 1 :: (body ++ trailL (begL ++ (digitsN body.length ++ 1 :: body)))).take (p - 12) := by
      rw [hw, ← hbl, List.drop_left]
    have hw0 : wordL begL ((msgL body).take p) = 0 := by rw [hw]; exact wordL_pre _ _
    by_cases c2 : p - 12 ≤ (digitsN body.length).length
    · have hl : (lenL (((msgL body).take p).drop 12) true 0).2.2 = 100 := by
        rw [hd, List.take_append_of_le_length c2]
        apply lenL_open
        · exact fun x hx => digitsN_dig _ x (List.mem_of_mem_take hx)
        · intro _ b t e
          refine digitsN_head body.length h1 b (t ++ (digitsN body.length).drop (p - 12)) ?_
          have := List.take_append_drop (p - 12) (digitsN body.length)
          rw [e] at this
          exact this.symm
        · have := valFrom_take (digitsN body.length) 0 (p - 12)
          have hv : valFrom 0 (digitsN body.length) = body.length := valOf_digitsN _
          omega
      unfold openL
      simp only
      rw [if_neg (by rw [hw0]; simp), if_pos (by rw [hl]; decide)]; exact hl
    · have hl : lenL (((msgL body).take p).drop 12) true 0 = (body.length, (digitsN body.length).length + 1, 0) := by
        have e : p - 12 = (digitsN body.length).length + ((p - 12 - (digitsN body.length).length - 1) + 1) := by omega
        rw [hd, List.take_append, List.take_of_length_le (by omega), show p - 12 - (digitsN body.length).length = (p - 12 - (digitsN body.length).length - 1) + 1 by omega, List.take_succ_cons]
        exact lenL_form _ _ h1 h2
      unfold openL
      simp only
      rw [if_neg (by rw [hw0]; simp), hl, if_neg (by simp), if_pos (by rw [List.length_take]; simp only; omega)]
theorem WireBack : Go.Proofs.YtgknfdjfgemceaaDoor.wireBack.P := by
  intro l0 a1 a2 hok h1 hw
  have hb2 := Go.bounds_i64 hw
  refine ⟨100, ?_⟩
  unfold spigotlaw10_WireBack.f spigotlaw10_awake.f
  simp only [Option.bind_some, if_true]
  by_cases c1 : (l0.length : Int) > 70
  · rw [if_pos c1]; simp [spigotlaw10_WireBack.j0]
  rw [if_neg c1]
  by_cases c2 : (a1.size : Int) > 1000
  · rw [if_pos c2]; simp [spigotlaw10_WireBack.j0]
  rw [if_neg c2]
  by_cases c3 : a2 < 0
  · rw [decide_eq_true c3]; simp [spigotlaw10_WireBack.j0]
  rw [decide_eq_false c3]
  simp only [spigotlaw10_WireBack.j0, Bool.false_eq_true, if_false]
  have hloop : ∀ (d k i : Nat), i + d = l0.length → d + 1 ≤ k → (∀ x ∈ l0.take i, x.f1.size ≤ 600) → spigotlaw10_WireBack.l0 k l0 a1 a2 l0 (l0.length : Int) (i : Int) = some true := by
    intro d
    induction d with
    | zero =>
      intro k i hi hk hx
      obtain ⟨k, rfl⟩ : ∃ n, k = n + 1 := ⟨k - 1, by omega⟩
      rw [List.take_of_length_le (by omega)] at hx
      simp only [spigotlaw10_WireBack.l0]
      rw [if_neg (by omega)]
      have hsm : smallF l0 = true := by
        unfold smallF; rw [List.all_eq_true]; intro x hxm; rw [decide_eq_true_eq]; have := hx x hxm; omega
      unfold tag_Forms.f
      rw [if_pos hsm]
      simp only [Option.bind_some]
      by_cases e : (allFormsL (l0.map pairF)).2 = 0
      · have hle : l0.length ≤ 64 := by
          unfold allFormsL at e
          split at e
          · exact absurd e (by decide)
          · rename_i g; rw [List.length_map] at g; omega
        have hall : allFormsL (l0.map pairF) = formsL (l0.map pairF) := by unfold allFormsL; rw [if_neg (by rw [List.length_map]; omega)]
        rw [hall] at e ⊢
        have hfd := fieldsL_formed (l0.map pairF) 0 0 e (by rw [List.length_map]; omega)
        have hlen := formsL_len (l0.map pairF)
        rw [List.length_map] at hlen
        generalize (formsL (l0.map pairF)).1 = body at hfd hlen
        rw [e, if_pos (by rfl)]
        unfold wire_Seal.f
        simp only [Option.bind_some]
        have hz : (⟨body.toArray⟩ : ByteArray).size = body.length := sz_lit _
        unfold sealB
        rw [hz, hfd]
        simp only [if_true]
        by_cases c : 1 ≤ body.length ∧ body.length ≤ 4096
        · rw [if_pos c]
          have hml := msgL_len body
          have hdl : (digitsN body.length).length ≤ 4 := digitsN_len 3 body.length (by omega)
          have hm0 : (⟨(msgL body).toArray⟩ : ByteArray).size = (msgL body).length := sz_lit _
          dsimp only
          rw [if_pos rfl, if_pos (by omega)]
          unfold wire_Open.f
          rw [if_pos (by rw [ByteArray.size_append]; omega)]
          have ho := openL_of body a1.data.toList c.1 c.2 (by rw [hfd])
          rw [show ((⟨(msgL body).toArray⟩ : ByteArray) ++ a1).data.toList = msgL body ++ a1.data.toList by rw [ByteArray.data_append, Array.toList_append], ho]
          simp only [Option.bind_some]
          have hmod : Int.tmod a2 ((⟨(msgL body).toArray⟩ : ByteArray).size : Int) = ((a2.toNat % (msgL body).length : Nat) : Int) := by
            rw [hm0]
            obtain ⟨m, rfl⟩ := Int.eq_ofNat_of_zero_le (show 0 ≤ a2 by omega)
            rw [Int.toNat_natCast]; rfl
          have hlt : a2.toNat % (msgL body).length < (msgL body).length := Nat.mod_lt _ (by omega)
          rw [hmod]
          generalize a2.toNat % (msgL body).length = p at hlt
          rw [if_neg (by omega), if_pos (by omega), if_pos (by omega), if_pos (by rw [ByteArray.size_extract]; omega), Int.toNat_natCast]
          have hcut := openL_cut body c.1 c.2 p hlt
          rw [show ((⟨(msgL body).toArray⟩ : ByteArray).extract 0 p).data.toList = (msgL body).take p by simp [ByteArray.data_extract]]
          have hf := openL_fail (l := (msgL body).take p) (by rw [hcut]; decide)
          simp only [Option.bind_some, hcut, hf.2]
          simp [hm0]
        · rw [if_neg c]
          simp only [if_true]
          rw [if_neg (by decide)]
          by_cases g : body.length = 0
          · rw [if_pos (by omega)]
          · rw [if_neg (by omega), decide_eq_true (by omega)]
      · rw [if_neg (by omega)]
        have : (allFormsL (l0.map pairF)).1 = [] := by
          unfold allFormsL at e ⊢
          split
          · rfl
          · rename_i g; rw [if_neg g] at e; exact formsL_err _ e
        rw [this, ByteArray.toList_eq]; rfl
    | succ d ih =>
      intro k i hi hk hx
      obtain ⟨k, rfl⟩ : ∃ n, k = n + 1 := ⟨k - 1, by omega⟩
      have h1 : i < l0.length := by omega
      simp only [spigotlaw10_WireBack.l0]
      rw [if_pos (by omega), if_pos (by omega), if_pos (by omega), rdFF l0 i h1]
      by_cases g : (l0[i].f1.size : Int) > 600
      · rw [if_pos g]
      · rw [if_neg g, w64 (by omega) (by omega), show (i : Int) + 1 = ((i + 1 : Nat) : Int) by omega]
        refine ih k (i + 1) (by omega) (by omega) ?_
        rw [List.take_succ_eq_append_getElem h1]
        intro x hxm
        rcases List.mem_append.1 hxm with q | q
        · exact hx x q
        · rw [List.mem_singleton.1 q]; omega
  exact hloop l0.length 99 0 (by omega) (by omega) (by simp)

end Go.Proofs.YtgknfdjfgemceaaDoor.Pure
