/- A body of as many bytes as may be is sealed and opened, one of one more is not. -/
import Derived.Test.YtgknfdjfgemceaaDoorQx38
namespace Go.Proofs.YtgknfdjfgemceaaDoor.Pure
set_option linter.unusedVariables false
set_option linter.unusedSimpArgs false
open Go.RowKit Go.Proofs.YtgknfdjfgemceaaDoor.Q Go.Proofs.YtgknfdjfgemceaaDoorW.PrintWords Go.Proofs.YtgknfdjfgemceaaDoorW.PrintLast

theorem strRep (n : Nat) : (strOfNums (List.replicate n 97)).data.toList = List.replicate n 97 := by
  rw [strOfNums_list, List.map_replicate]; rfl
theorem strRepZ (n : Nat) : (strOfNums (List.replicate n 97)).size = n := by
  have := congrArg List.length (strRep n)
  rw [List.length_replicate] at this
  exact this
theorem oneSize (t : ByteArray) : (((⟨#[49, 61]⟩ : ByteArray) ++ t) ++ (⟨#[1]⟩ : ByteArray)).size = t.size + 3 := by
  rw [ByteArray.size_append, ByteArray.size_append, show (⟨#[49, 61]⟩ : ByteArray).size = 2 from rfl, show (⟨#[1]⟩ : ByteArray).size = 1 from rfl]; omega
theorem oneList (n : Nat) : (((⟨#[49, 61]⟩ : ByteArray) ++ strOfNums (List.replicate n 97)) ++ (⟨#[1]⟩ : ByteArray)).data.toList = [49, 61] ++ List.replicate n 97 ++ [1] := by
  rw [ByteArray.data_append, ByteArray.data_append, Array.toList_append, Array.toList_append, strRep]
theorem allMay_rep : ∀ n : Nat, allMay (List.replicate n 97) = true
  | 0 => allMay_nil
  | n + 1 => by
    rw [List.replicate_succ, allMay_cons _ (by simp), dec_ascii _ _ (by decide), List.drop_succ_cons, List.drop_zero, allMay_rep n]; decide
theorem form_rep (n : Nat) (h1 : 1 ≤ n) (h2 : n ≤ 512) : formL 1 (List.replicate n 97) = ([49, 61] ++ List.replicate n 97 ++ [1], 0) := by
  unfold formL valueL
  rw [if_neg (by decide), List.length_replicate, decide_eq_true h1, decide_eq_true h2, allMay_rep, show (1 : Int).toNat = 1 from rfl, digitsN_small (by decide)]
  simp
/-- Lists of such fields. -/
theorem forms_rep (ns : List Nat) (h : ∀ n ∈ ns, 1 ≤ n ∧ n ≤ 512) : formsL (ns.map fun n => ((1 : Int), List.replicate n (97 : UInt8))) = (ns.flatMap fun n => [49, 61] ++ List.replicate n 97 ++ [1], 0) := by
  induction ns with
  | nil => rfl
  | cons n ns ih =>
    have hn := h n List.mem_cons_self
    rw [List.map_cons]
    unfold formsL
    rw [form_rep n hn.1 hn.2, ih fun m hm => h m (List.mem_cons_of_mem _ hm)]
    simp
theorem forms_snoc (ns : List Nat) (n : Nat) : ((ns ++ [n]).flatMap fun n => [49, 61] ++ List.replicate n (97 : UInt8) ++ [1]) = (ns.flatMap fun n => [49, 61] ++ List.replicate n 97 ++ [1]) ++ ([49, 61] ++ List.replicate n 97 ++ [1]) := by
  rw [List.flatMap_append]; simp
theorem open_big : (openL [56, 61, 70, 73, 88, 46, 52, 46, 52, 1, 57, 61, 52, 48, 57, 55]).2.2 = 102 := by decide
theorem lim_end (a0 : Int) (h0 : 4093 ≤ a0) (h9 : a0 ≤ 4099) (ns : List Nat) (body : ByteArray) (hb : body.data.toList = ns.flatMap fun n => [49, 61] ++ List.replicate n 97 ++ [1]) (hn : ∀ n ∈ ns, 1 ≤ n ∧ n ≤ 512) (hl : ns.length ≤ 64) (hz : (body.size : Int) = a0) :
    ((wire_Seal.f body).bind fun bt240 => (if a0 > 4096 then ((wire_Open.f (⟨#[56, 61, 70, 73, 88, 46, 52, 46, 52, 1, 57, 61, 52, 48, 57, 55]⟩ : ByteArray)).bind fun bt242 => (if bt240.2 = 102 then (if bt240.1.toList = ([] : List UInt8) then (some (bt242.2.2 == 102)) else (some false)) else (some false))) else ((wire_Open.f bt240.1).bind fun bt245 => (if bt240.2 = 0 then (if bt245.2.2 = 0 then (if bt245.1.toList = body.toList then (if bt245.2.1 = (bt240.1.size : Int) then (some ((bt245.1.size : Int) == a0)) else (some false)) else (some false)) else (some false)) else (some false))))) = some true := by
  unfold wire_Seal.f
  simp only [Option.bind_some]
  have hfs := forms_rep ns hn
  have hfd := fieldsL_formed (ns.map fun n => ((1 : Int), List.replicate n (97 : UInt8))) 0 0 (by rw [hfs]) (by rw [List.length_map]; omega)
  rw [hfs] at hfd
  simp only at hfd
  rw [← hb] at hfd
  have hbl : body.data.toList.length = body.size := rfl
  by_cases c : a0 > 4096
  · rw [if_pos c]
    unfold sealB
    rw [if_neg (by omega)]
    unfold wire_Open.f
    rw [if_pos (by decide)]
    simp only [Option.bind_some, if_true]
    rw [open_big, ByteArray.toList_eq]
    rfl
  · rw [if_neg c]
    unfold sealB
    rw [if_pos ⟨by omega, by omega⟩, hfd]
    simp only [if_true]
    have hm0 : (⟨(msgL body.data.toList).toArray⟩ : ByteArray).size = (msgL body.data.toList).length := sz_lit _
    have hml := msgL_len body.data.toList
    have hdl : (digitsN body.data.toList.length).length ≤ 4 := digitsN_len 3 _ (by rw [hbl]; omega)
    rw [hbl] at hml hdl
    unfold wire_Open.f
    rw [if_pos (by omega)]
    have ho := openL_of body.data.toList [] (by rw [hbl]; omega) (by rw [hbl]; omega) (by rw [hfd])
    rw [List.append_nil] at ho
    simp only [Option.bind_some]
    rw [ho]
    simp only [if_true, ByteArray.toList_eq]
    rw [if_pos (by rfl), hm0, if_pos rfl, sz_lit, hbl, hz]
    simp
theorem lim_loop (a0 : Int) (h0 : 4093 ≤ a0) (h9 : a0 ≤ 4099) (d : Nat) : ∀ (k : Nat) (ns : List Nat) (body : ByteArray), ns.length + d = 16 → d + 1 ≤ k → body.data.toList = (ns.flatMap fun n => [49, 61] ++ List.replicate n 97 ++ [1]) → (∀ n ∈ ns, 1 ≤ n ∧ n ≤ 512) → body.size = 256 * ns.length → 256 * (ns.length : Int) ≤ a0 - 250 →
    spigotlaw10_WireLimits.l0 k a0 body = some true := by
  induction d with
  | zero =>
    intro k ns body hd hk hb hn hz hle
    omega
  | succ d ih =>
    intro k ns body hd hk hb hn hz hle
    obtain ⟨k, rfl⟩ : ∃ n, k = n + 1 := ⟨k - 1, by omega⟩
    simp only [spigotlaw10_WireLimits.l0]
    rw [w64 (x := a0 - (body.size : Int)) (by omega) (by omega)]
    by_cases c : a0 - (body.size : Int) > 512
    · rw [if_pos c]
      unfold spigotlaw10_text.f
      rw [if_pos (by decide)]
      simp only [Option.bind_some]
      rw [show (253 : Int).toNat = 253 from rfl]
      have ht := strRepZ 253
      have ho := oneSize (strOfNums (List.replicate 253 97))
      have hol := oneList 253
      rw [if_pos (by omega), if_pos (by rw [ByteArray.size_append, ht]; decide), if_pos (by omega)]
      refine ih k (ns ++ [253]) _ (by simp; omega) (by omega) ?_ ?_ ?_ ?_
      · rw [forms_snoc, ByteArray.data_append, Array.toList_append, hb, hol]
      · intro n hm
        rcases List.mem_append.1 hm with q | q
        · exact hn n q
        · rw [List.mem_singleton.1 q]; omega
      · rw [ByteArray.size_append, ho, ht, hz]; simp; omega
      · simp; omega
    · rw [if_neg c, w64 (x := a0 - (body.size : Int) - 3) (by omega) (by omega)]
      unfold spigotlaw10_text.f
      rw [if_pos (by omega)]
      simp only [Option.bind_some]
      obtain ⟨m, hm⟩ := Int.eq_ofNat_of_zero_le (show 0 ≤ a0 - (body.size : Int) - 3 by omega)
      rw [hm, Int.toNat_natCast]
      have ht := strRepZ m
      have ho := oneSize (strOfNums (List.replicate m 97))
      have hol := oneList m
      rw [if_pos (by omega), if_pos (by rw [ByteArray.size_append, ht, show (⟨#[49, 61]⟩ : ByteArray).size = 2 from rfl]; omega), if_pos (by omega)]
      refine lim_end a0 h0 h9 (ns ++ [m]) _ ?_ ?_ ?_ ?_
      · rw [forms_snoc, ByteArray.data_append, Array.toList_append, hb, hol]
      · intro n hmm
        rcases List.mem_append.1 hmm with q | q
        · exact hn n q
        · rw [List.mem_singleton.1 q]; omega
      · simp; omega
      · rw [ByteArray.size_append, ho, ht]; omega
theorem WireLimits : spigotlaw10_WireLimits.Pure := by
  intro a0 hw
  refine ⟨40, ?_⟩
  unfold spigotlaw10_WireLimits.f spigotlaw10_awake.f
  simp only [Option.bind_some, if_true]
  by_cases c1 : a0 < 4093
  · rw [if_pos c1]; simp [spigotlaw10_WireLimits.j0]
  rw [if_neg c1]
  by_cases c2 : a0 > 4099
  · rw [decide_eq_true c2]; simp [spigotlaw10_WireLimits.j0]
  rw [decide_eq_false c2]
  simp only [spigotlaw10_WireLimits.j0, Bool.false_eq_true, if_false]
  exact lim_loop a0 (by omega) (by omega) 16 39 [] ⟨#[]⟩ (by simp) (by omega) (by simp) (by simp) (by simp; rfl) (by simp; omega)

end Go.Proofs.YtgknfdjfgemceaaDoor.Pure
