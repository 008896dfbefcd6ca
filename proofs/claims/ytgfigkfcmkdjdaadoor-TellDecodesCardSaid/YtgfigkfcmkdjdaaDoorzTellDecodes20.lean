/- The functions that the law reaches, as plain Lean functions, and their contracts: texts merged. -/
import Derived.Test.YtgfigkfcmkdjdaaDoorzTellDecodes2
import Derived.Test.YtgfigkfcmkdjdaaDoorzTellDecodes0
import Derived.Test.YtgfigkfcmkdjdaaDoorzTellDecodes1
import Derived.Test.YtgfigkfcmkdjdaaDoorzTellDecodes3
import Derived.Test.YtgfigkfcmkdjdaaDoorzTellDecodes4
import Derived.Test.YtgfigkfcmkdjdaaDoorzTellDecodes5
import Derived.Test.YtgfigkfcmkdjdaaDoorzTellDecodes6
import Derived.Test.YtgfigkfcmkdjdaaDoorzTellDecodes7
import Derived.Test.YtgfigkfcmkdjdaaDoorzTellDecodes8
import Derived.Test.YtgfigkfcmkdjdaaDoorzTellDecodes9
import Derived.Test.YtgfigkfcmkdjdaaDoorzTellDecodes10
import Derived.Test.YtgfigkfcmkdjdaaDoorzTellDecodes11
import Derived.Test.YtgfigkfcmkdjdaaDoorzTellDecodes12
import Derived.Test.YtgfigkfcmkdjdaaDoorzTellDecodes13
import Derived.Test.YtgfigkfcmkdjdaaDoorzTellDecodes14
import Derived.Test.YtgfigkfcmkdjdaaDoorzTellDecodes15
import Derived.Test.YtgfigkfcmkdjdaaDoorzTellDecodes16
import Derived.Test.YtgfigkfcmkdjdaaDoorzTellDecodes17
import Derived.Test.YtgfigkfcmkdjdaaDoorzTellDecodes18
import Derived.Test.YtgfigkfcmkdjdaaDoorzTellDecodes19
section
namespace Go.Proofs.YtgfigkfcmkdjdaaDoor.B
open Go.RowKit Go.Proofs.YtgfigkfcmkdjdaaDoorW.PrintWords Go.Proofs.YtgfigkfcmkdjdaaDoorW.PrintLast Go.Proofs.YtgfigkfcmkdjdaaDoorW.PrintMore
attribute [local go_sem] max2_int min2_int max_two min_two max_three min_three max_four min_four   -- for this text's walks alone
set_option linter.unusedVariables false
set_option linter.unusedSimpArgs false
def tagF (x : Int) : Int := if x = 0 then 11 else if x = 1 then 17 else if x = 2 then 39 else if x = 3 then 32 else if x = 4 then 31 else if x = 5 then 14 else if x = 6 then 151 else if x = 7 then 371 else if x = 8 then 103 else if x = 9 then 373 else 380
def textF (a : TellV) (x : Int) : ByteArray := if x = 0 ∨ x = 1 then getS a x else digitsB (getN a x)
def fieldF (a : TellV) (x : Int) : S78 := ⟨tagF x, textF a x⟩
def encF (a : TellV) : List S78 := ⟨35, (tell_word.f a.f0).getD ⟨#[]⟩⟩ :: (slotsN a.f0.toNat).map (fieldF a)
def encT (a : TellV) : ByteArray × Int := if rightT a = true then (⟨(allFormsL ((encF a).map pairF)).1.toArray⟩, ((allFormsL ((encF a).map pairF)).2 : Int)) else (⟨#[]⟩, 2)
theorem place_tag (x : Int) (h : 0 ≤ x ∧ x ≤ 10) : ∃ m, tell_placeOf.f x = some (tagF x, m) := by
  rcases (show x = 0 ∨ x = 1 ∨ x = 2 ∨ x = 3 ∨ x = 4 ∨ x = 5 ∨ x = 6 ∨ x = 7 ∨ x = 8 ∨ x = 9 ∨ x = 10 by omega) with rfl | rfl | rfl | rfl | rfl | rfl | rfl | rfl | rfl | rfl | rfl <;> exact ⟨_, rfl⟩
theorem okF_num (x : Int) (r : TellV) (h : 2 ≤ x) (ho : okF x r = true) : 0 ≤ getN r x ∧ getN r x ≤ 1099511627776 := by
  unfold okF at ho
  rw [if_neg (by omega), decide_eq_true_eq] at ho
  refine ⟨ho.1, Int.le_trans ho.2 ?_⟩
  unfold mostOf
  repeat' split
  all_goals decide
theorem right_kind (a : TellV) (h : rightT a = true) : 1 ≤ a.f0 ∧ a.f0 ≤ 4 := by
  unfold rightT at h
  split at h
  · assumption
  · cases h
theorem right_nums (a : TellV) (h : rightT a = true) : ∀ x ∈ slotsN a.f0.toNat, 2 ≤ x → 0 ≤ getN a x ∧ getN a x ≤ 1099511627776 := by
  have hk := right_kind a h
  unfold rightT at h
  rw [if_pos hk] at h
  obtain ⟨kd, hkd⟩ := Int.eq_ofNat_of_zero_le (show 0 ≤ a.f0 by omega)
  have e : a.f0.toNat = kd := by omega
  rw [e] at h ⊢
  have hk2 : 1 ≤ kd ∧ kd ≤ 4 := by omega
  clear hk hkd e
  rcases (show kd = 1 ∨ kd = 2 ∨ kd = 3 ∨ kd = 4 by omega) with rfl | rfl | rfl | rfl
  · simp only [slotsN, rightR_cons, Bool.and_eq_true] at h
    obtain ⟨_, _, h2, h3, h4, h5, h6, h8, _⟩ := h
    intro x hx h2x
    simp only [slotsN, List.mem_cons, List.not_mem_nil, or_false] at hx
    rcases hx with rfl | rfl | rfl | rfl | rfl | rfl | rfl | rfl
    · omega
    · omega
    · exact okF_num 2 _ (by omega) h2
    · exact okF_num 3 _ (by omega) h3
    · exact okF_num 4 _ (by omega) h4
    · exact okF_num 5 _ (by omega) h5
    · exact okF_num 6 _ (by omega) h6
    · exact okF_num 8 _ (by omega) h8
  · simp only [slotsN, rightR_cons, Bool.and_eq_true] at h
    obtain ⟨_, h2, h8, _⟩ := h
    intro x hx h2x
    simp only [slotsN, List.mem_cons, List.not_mem_nil, or_false] at hx
    rcases hx with rfl | rfl | rfl
    · omega
    · exact okF_num 2 _ (by omega) h2
    · exact okF_num 8 _ (by omega) h8
  · simp only [slotsN, rightR_cons, Bool.and_eq_true] at h
    obtain ⟨h7, h9, _⟩ := h
    intro x hx h2x
    simp only [slotsN, List.mem_cons, List.not_mem_nil, or_false] at hx
    rcases hx with rfl | rfl
    · exact okF_num 7 _ (by omega) h7
    · exact okF_num 9 _ (by omega) h9
  · simp only [slotsN, rightR_cons, Bool.and_eq_true] at h
    obtain ⟨h7, h10, _⟩ := h
    intro x hx h2x
    simp only [slotsN, List.mem_cons, List.not_mem_nil, or_false] at hx
    rcases hx with rfl | rfl
    · exact okF_num 7 _ (by omega) h7
    · exact okF_num 10 _ (by omega) h10
theorem one_head (W : World) (B : Nat) (sv : ByteArray) (hB : B ≤ W.heap.size) :
    Kd.R k78 78 (W.alloc (.cells #[.int .i64 35, .string sv] 78)) B (fun _ => True) (.slice (some ⟨W.heap.size, 0, none⟩) 1 1) [⟨35, sv⟩] := by
  have hr : Reps (Kd.M k78 (W.alloc (.cells #[.int .i64 35, .string sv] 78)) B (fun k => True ∧ some k ≠ Value.ownBlock (.slice (some ⟨W.heap.size, 0, none⟩) 1 1))) 2 [(⟨35, sv⟩ : S78)] [.int .i64 35, .string sv] :=
    ⟨rfl, fun j p hj => by
      match j, hj with
      | 0, hj => obtain rfl : (⟨35, sv⟩ : S78) = p := Option.some.inj hj; exact k78_mkM _ _ _ ⟨35, sv⟩
      | n + 1, hj => simp at hj⟩
  exact ⟨fun _ _ => trivial, OwnRow.lit (e := 78) W B hr hB (by show 1 ≤ _; decide)⟩
theorem info_field_e : (Tryd.prog.info? 78).map (fun i => (i.zero, i.size, i.bytes)) = some (some (.agg #[.int .i64 0, .string ⟨#[]⟩]), 2, 24) := by kernel_rfl
def EncIs (r : ByteArray × Int) (w : World) (e : Ending) (w' : World) : Prop := e = .returned (.tuple #[.string r.1, .int .i64 r.2]) ∧ Below w.heap.size w w'
theorem EncIs.mk_ {r : ByteArray × Int} {b : ByteArray} {x : Int} {w w' : World} (h : r = (b, x)) (hw : Below w.heap.size w w') : EncIs r w (.returned (.tuple #[.string b, .int .i64 x])) w' := by subst h; exact ⟨rfl, hw⟩
theorem field_place0 (t m : Int) (w : World) : (Instr.field 84 (.agg #[.int .i64 t, .int .i64 m]) 0).run Tryd.prog w = .ok (.int .i64 t) w := by kernel_rfl
theorem fld_free {W : World} {b : Nat} {c : Array Value} {t : TypeId} (h : W.heap[b]? = some (.cells c t (0, 0))) (j : Nat) : W.frozen? ⟨b, j, none⟩ = false := by
  unfold World.frozen?
  simp only [h]
  simp
theorem small_enc (a : TellV) (wb : UInt8) (sl : List Int) (h1s : a.f1.size ≤ 140737488351232) (h2s : a.f2.size ≤ 140737488351232) (hm : ∀ x ∈ sl, 0 ≤ x ∧ x ≤ 10) (hn : ∀ x ∈ sl, 2 ≤ x → 0 ≤ getN a x ∧ getN a x ≤ 1099511627776) : smallF (⟨35, ⟨#[wb]⟩⟩ :: sl.map (fieldF a)) = true := by
  unfold smallF
  rw [List.all_eq_true]
  intro y hy
  rw [decide_eq_true_eq]
  rcases List.mem_cons.1 hy with rfl | hy
  · show (1 : Nat) ≤ 9223372036854775807; decide
  · obtain ⟨x, hx, rfl⟩ := List.mem_map.1 hy
    show (textF a x).size ≤ 9223372036854775807
    unfold textF
    have h0 := hm x hx
    split
    · unfold getS; split <;> omega
    · rename_i g
      have h2 := hn x hx (by omega)
      have := digitsB_20 (getN a x) (by omega)
      omega
theorem slotsN_pos (kd : Nat) (h : 1 ≤ kd ∧ kd ≤ 4) : 0 < (slotsN kd).length := by
  rcases (show kd = 1 ∨ kd = 2 ∨ kd = 3 ∨ kd = 4 by omega) with rfl | rfl | rfl | rfl <;> decide
theorem enc_step (a : TellV) (sl : List Int) (As : Option Addr) (i : Nat) (x : Int) (sv : ByteArray) (wb : UInt8) (w : World) (B0 : Nat) (w4 wr W : World) (A4 : Option Addr) (c4 : Nat)
    (hR : Kd.R k78 78 wr B0 (fun k => ∀ ad, As = some ad → k ≠ ad.block) (.slice A4 (i + 1) c4) (⟨35, ⟨#[wb]⟩⟩ :: (sl.take i).map (fieldF a))) (hB : Below w.heap.size w wr) (hK : wr.heap[w.heap.size]? = some (.cells (tellCells a) 23 (0, 0)))
    (hT : Turned (fun k => ∀ ad, As = some ad → k ≠ ad.block) w4 wr) (htk : (sl.take (i + 1)).map (fieldF a) = (sl.take i).map (fieldF a) ++ [fieldF a x]) (hfx : fieldF a x = ⟨tagF x, sv⟩) (hW : Below wr.heap.size wr W) (hw2 : w.heap.size < B0) :
    ∀ v8 w8, Kd.R k78 78 w8 B0 (fun k => ∀ ad, As = some ad → k ≠ ad.block) v8 ((⟨35, ⟨#[wb]⟩⟩ :: (sl.take i).map (fieldF a)) ++ [⟨tagF x, sv⟩]) → Below B0 W w8 → W.grownBy w8 (Value.slice A4 (i + 1) c4).ownBlock →
      Kd.R k78 78 w8 B0 (fun k => ∀ ad, As = some ad → k ≠ ad.block) v8 (⟨35, ⟨#[wb]⟩⟩ :: (sl.take (i + 1)).map (fieldF a)) ∧ Below w.heap.size w w8 ∧ w8.heap[w.heap.size]? = some (.cells (tellCells a) 23 (0, 0)) ∧ Turned (fun k => ∀ ad, As = some ad → k ≠ ad.block) w4 w8 := by
  intro v8 w8 hR8 hb8 hg8
  have hbk := blk_lt hK
  refine ⟨by rw [htk, hfx, ← List.cons_append]; exact hR8, (hB.trans (hW.mono hB.size)).trans ⟨hb8.os, hb8.tape, hb8.output, hb8.size, fun k hk => hb8.block k (by omega)⟩, (hb8.block w.heap.size hw2).trans (blk_below hK hW), (hT.trans (Turned.of_below hW)).trans (Turned.of_grown' hg8 (fun b hb => hR.1 b hb))⟩
set_option maxRecDepth 100000 in
set_option maxHeartbeats 8000000 in
theorem tell_Encode_walk (a : TellV) (w : World) (hT_ : Aside0 (Tabs_ w)) (h1s : a.f1.size ≤ 140737488351232) (h2s : a.f2.size ≤ 140737488351232) :
    Calls Tryd.prog 15 #[.agg #[.int .i64 a.f0, .string a.f1, .string a.f2, .int .i64 a.f3, .int .i64 a.f4, .int .i64 a.f5, .int .i64 a.f6, .int .i64 a.f7, .int .i64 a.f8, .int .i64 a.f9]] w (EncIs (encT a) w) := by
  have HB0 : Aside0 (Below w.heap.size w (w.alloc (.cells #[.int .i64 a.f0, .string a.f1, .string a.f2, .int .i64 a.f3, .int .i64 a.f4, .int .i64 a.f5, .int .i64 a.f6, .int .i64 a.f7, .int .i64 a.f8, .int .i64 a.f9] 23))) := ⟨(Below.refl _ _).alloc (Nat.le_refl _) _⟩
  have BK0 := Aside0.mk (blk_new w (.cells #[.int .i64 a.f0, .string a.f1, .string a.f2, .int .i64 a.f3, .int .i64 a.f4, .int .i64 a.f5, .int .i64 a.f6, .int .i64 a.f7, .int .i64 a.f8, .int .i64 a.f9] 23))
  have HRt : Aside0 (∀ W, Calls Tryd.prog 18 #[.agg #[.int .i64 a.f0, .string a.f1, .string a.f2, .int .i64 a.f3, .int .i64 a.f4, .int .i64 a.f5, .int .i64 a.f6, .int .i64 a.f7, .int .i64 a.f8, .int .i64 a.f9]] W (RtIs (rightT a) W)) := ⟨fun W => tell_Right_walk a W h1s h2s⟩
  cases hrt : rightT a with
  | false =>
    have HE : Aside0 (encT a = (⟨#[]⟩, 2)) := ⟨by unfold encT; rw [if_neg (by rw [hrt]; decide)]⟩
    rw [hrt] at HRt
    clear hrt
    go_enter Tryd.func15, Tryd.ntmps15
    go_wp2_with (go_at_call 18; refine (HRt.out _).mono ?_; rintro en w1 ⟨rfl, hb⟩; have B1 := Aside0.mk (HB0.out.trans (hb.mono HB0.out.size)); clear hb)
    go_ret2
    exact EncIs.mk_ HE.out B1.out
  | true =>
    have hk := right_kind a hrt
    have hnums := right_nums a hrt
    have HE : Aside0 (encT a = (⟨(allFormsL ((encF a).map pairF)).1.toArray⟩, ((allFormsL ((encF a).map pairF)).2 : Int))) := ⟨by unfold encT; rw [if_pos hrt]⟩
    rw [hrt] at HRt
    obtain ⟨kd, hkd⟩ := Int.eq_ofNat_of_zero_le (show 0 ≤ a.f0 by omega)
    have hk1 : 1 ≤ kd ∧ kd ≤ 4 := by omega
    obtain ⟨wb, hwb⟩ := word_some kd hk1
    have hsl := tell_slots_k kd hk1.1 hk1.2
    have hencf : encF a = ⟨35, ⟨#[wb]⟩⟩ :: (slotsN kd).map (fieldF a) := by unfold encF; rw [hkd, Int.toNat_natCast, hwb]; rfl
    rw [hkd, Int.toNat_natCast] at hnums
    rw [hencf] at HE
    rw [← hkd] at hwb hsl
    have HW : Aside0 (∀ W, Calls Tryd.prog 45 #[.int .i64 a.f0] W fun e w' => e = .returned (.string ⟨#[wb]⟩) ∧ Drawn0 W w') := ⟨fun W => tell_word.calls _ _ W hwb⟩
    have HSl : Aside0 (∀ W, Calls Tryd.prog 46 #[.int .i64 a.f0] W fun e w' => ∃ v0_ : Value, e = .returned (v0_) ∧ Kd.R (Kd.int .i64) 82 w' W.heap.size (fun _ => True) v0_ (slotsN kd) ∧ Below W.heap.size W w') := ⟨fun W => tell_slots.calls _ _ W hsl⟩
    have HSm := Aside0.mk (slotsN_mem kd)
    have hsn := slotsN_len kd
    have HS0 := Aside0.mk (slotsN_pos kd hk1)
    have HNu := Aside0.mk hnums
    have HSmf : Aside0 (smallF (⟨35, ⟨#[wb]⟩⟩ :: (slotsN kd).map (fieldF a)) = true) := ⟨small_enc a wb (slotsN kd) h1s h2s (slotsN_mem kd) hnums⟩
    clear hrt hk hkd hk1 hwb hsl hnums hencf
    generalize slotsN kd = sl at *
    generalize encT a = res at *
    go_enter Tryd.func15, Tryd.ntmps15
    go_wp2_with (first
      | (go_at_call 18; refine (HRt.out _).mono ?_; rintro en w1 ⟨rfl, hb⟩; have B1 := Aside0.mk (HB0.out.trans (hb.mono HB0.out.size)); have BK1 := Aside0.mk (blk_below BK0.out hb); have hc1 := fun i => blk_cell BK1.out i; clear hb HB0 BK0)
      | (go_at_call 45; refine (HW.out _).mono ?_; rintro en w2 ⟨rfl, hd⟩; have B2 := Aside0.mk (B1.out.trans (hd.below.mono B1.out.size)); have BK2 := Aside0.mk (blk_below BK1.out hd.below); clear hc1; have hc0 : (w2.alloc (.cells #[.int .i64 35, .string ⟨#[wb]⟩] 78)).cell? ⟨w.heap.size, 0, none⟩ = some (.int .i64 a.f0) := blk_cell (blk_alloc BK2.out _) 0; have BK3 := Aside0.mk (blk_alloc BK2.out (.cells #[.int .i64 35, .string ⟨#[wb]⟩] 78)); have B3 : Aside0 (Below w.heap.size w (w2.alloc (.cells #[.int .i64 35, .string ⟨#[wb]⟩] 78))) := ⟨B2.out.alloc B2.out.size _⟩; clear hd B1 BK1)
      | (go_at_call 46; refine (HSl.out _).mono ?_; rintro en w4 ⟨v0, rfl, hR, hb⟩; have B4 := Aside0.mk (B3.out.trans (hb.mono B3.out.size)); have BK4 := Aside0.mk (blk_below BK3.out hb); have HRb := Aside0.mk (Kd.R_base hR); obtain ⟨As, cs, rfl, hcs, hCs⟩ := Kd.R_reads hR; have HCs := Aside0.mk hCs; have HBel := Aside0.mk hb; clear hR hb hCs B3 BK3 hc0))
    have hs2 : (w2.alloc (.cells #[.int .i64 35, .string ⟨#[wb]⟩] 78)).heap.size = w2.heap.size + 1 := World.size_alloc _ _
    have HAs : Aside0 (∀ ad, As = some ad → w2.heap.size + 1 ≤ ad.block) := ⟨fun ad h => by have := HRb.out ad.block (by rw [h]; rfl); omega⟩
    have HRow : Aside0 (Kd.R k78 78 w4 w2.heap.size (fun k => ∀ ad, As = some ad → k ≠ ad.block) (.slice (some ⟨w2.heap.size, 0, none⟩) 1 1) [⟨35, ⟨#[wb]⟩⟩]) :=
      ⟨Kd.R_below (Kd.R_mono (Kd.R_bound (one_head w2 w2.heap.size ⟨#[wb]⟩ (Nat.le_refl _))) (fun k hk ad h => by have := hk.2.2.1; have := HAs.out ad h; omega)) HBel.out⟩
    have HW2 : Aside0 (w.heap.size < w2.heap.size) := ⟨blk_lt BK2.out⟩
    have HS4 : Aside0 (w2.heap.size + 1 ≤ w4.heap.size) := ⟨by have := HBel.out.size; omega⟩
    have HSb : Aside0 (∀ ad, As = some ad → ad.block < w4.heap.size) := ⟨fun ad h => by
      rcases Nat.eq_zero_or_pos sl.length with g | g
      · have := HS0.out; omega
      · obtain ⟨ad2, h2, q⟩ := Kd.at_int HCs.out ((0 : Nat) : Int) (by omega) (by omega)
        have h3 := World.block_lt_of_cell? w4 _ q
        rw [add_block] at h3
        rw [h] at h2
        rw [Option.some.inj h2]; exact h3⟩
    clear hs2 HBel BK2 B2
    go_loopw [4, 21] (fun v4 v21 wq => ∃ i : Nat, v21 = .int .i64 (i : Int) ∧ i ≤ sl.length ∧ Aside0 (Kd.R k78 78 wq w2.heap.size (fun k => ∀ ad, As = some ad → k ≠ ad.block) v4 (⟨35, ⟨#[wb]⟩⟩ :: (sl.take i).map (fieldF a))) ∧ Aside0 (Below w.heap.size w wq) ∧ Aside0 (wq.heap[w.heap.size]? = some (.cells (tellCells a) 23 (0, 0))) ∧ Aside0 (Turned (fun k => ∀ ad, As = some ad → k ≠ ad.block) w4 wq)) (fun _ v21 _ => sl.length - (intOf v21).toNat)
    case atStart => exact ⟨0, rfl, Nat.zero_le _, HRow, B4, BK4, ⟨Turned.refl _ _⟩⟩
    case round =>
      clear HRow B4 BK4
      obtain ⟨i, rfl, hi, HR, B, BK, HT⟩ := hrel
      obtain ⟨A4, c4, rfl, hc4, hC4⟩ := Kd.R_reads HR.out
      have hlm : ((⟨35, ⟨#[wb]⟩⟩ : S78) :: (sl.take i).map (fieldF a)).length = i + 1 := by rw [List.length_cons, List.length_map, List.length_take]; omega
      have HLm := Aside0.mk hlm
      have HC4 := Aside0.mk hC4
      have Hc4 := Aside0.mk hc4
      rw [hlm] at HR
      clear hc4 hlm hC4
      by_cases hlt : i < sl.length
      · have k1 : decide ((i : Int) < (sl.length : Int)) = true := by rw [decide_eq_true_eq]; omega
        have k2 : (0 : Int) ≤ (i : Int) ∧ (i : Int) < (sl.length : Int) := by omega
        have hti : ((i : Int)).toNat = i := Int.toNat_natCast i
        obtain ⟨ad, hA, q0⟩ := Kd.at_int HCs.out (i : Int) (by omega) (by omega)
        have hrd : rd sl (i : Int) = sl[i] := by unfold rd; rw [Int.toNat_natCast, List.getD_eq_getElem?_getD, List.getElem?_eq_getElem hlt]; rfl
        rw [hti, hrd] at q0
        have hq := HT.out.cell q0 (fun e => e ad hA (by rw [add_block]))
        have hx := HSm.out _ (List.getElem_mem hlt)
        have hxm := HNu.out _ (List.getElem_mem hlt)
        have HTk : Aside0 ((sl.take (i + 1)).map (fieldF a) = (sl.take i).map (fieldF a) ++ [fieldF a sl[i]]) := ⟨by rw [List.take_succ_eq_append_getElem hlt, List.map_append]; rfl⟩
        clear q0 hrd
        generalize sl[i] = x at *
        obtain ⟨m, hpl⟩ := place_tag x hx
        have HPl : Aside0 (∀ W, Calls Tryd.prog 47 #[.int .i64 x] W fun e w' => e = .returned (.agg #[.int .i64 (tagF x), .int .i64 m]) ∧ Below W.heap.size W w') := ⟨fun W => tell_placeOf.calls x _ m W hpl⟩
        have hfl := field_place0 (tagF x) m
        have HAd : Aside0 (As = some ad) := ⟨hA⟩
        clear hpl
        by_cases hxn : x = 0 ∨ x = 1
        · obtain ⟨t, j, hask, hpl, hoff, hj, ht, hname⟩ := askOf_name x hxn
          have HNm := Aside0.mk hname
          have HC0 : Aside0 ((tellCells a)[j]? = some (.string (getS a x))) := ⟨by rw [← hoff]; exact cell_str a x hxn⟩
          have HFx : Aside0 (fieldF a x = ⟨tagF x, getS a x⟩) := ⟨by unfold fieldF textF; rw [if_pos hxn]⟩
          clear hask hpl hoff hname ht hxn hxm
          generalize getS a x = sv at *
          go_wp2_with (first
            | (go_at_call 47; refine (HPl.out _).mono ?_; rintro en w5 ⟨rfl, hb5⟩; have hc5 : (w5.alloc (.cells #[.int .i64 (tagF x), .string ⟨#[]⟩] 78)).cell? ⟨w.heap.size, j, none⟩ = some (.string sv) := (blk_cell (blk_alloc (blk_below BK.out hb5) _) j).trans HC0.out; have hbw : Below wr.heap.size wr (w5.alloc (.cells #[.int .i64 (tagF x), .string sv] 78)) := hb5.trans ((Below.refl _ _).alloc hb5.size _); have HFr : Aside0 (∀ k, (w5.alloc (.cells #[.int .i64 (tagF x), .string sv] 78)).heap.size ≤ k → ∀ ad, As = some ad → k ≠ ad.block) := ⟨fun k hk ad2 h => by have q1 := HSb.out ad2 h; have q2 := hbw.size; have q3 := HT.out.size; omega⟩; have HRX := Aside0.mk (Kd.R_below HR.out hbw); have HBs : Aside0 (w2.heap.size ≤ (w5.alloc (.cells #[.int .i64 (tagF x), .string sv] 78)).heap.size) := ⟨by have q1 := HS4.out; have q2 := hbw.size; have q3 := HT.out.size; omega⟩; have HEnd := Aside0.mk (enc_step a sl As i x sv wb w w2.heap.size w4 wr (w5.alloc (.cells #[.int .i64 (tagF x), .string sv] 78)) A4 c4 HR.out B.out BK.out HT.out HTk.out HFx.out hbw HW2.out); clear hbw; clear hb5)
            | (go_at_call 48; refine (HNm.out _ _).mono ?_; rintro en w6 ⟨rfl, hh⟩; obtain rfl := hh.symm; clear hh)
            | (at_builtin; refine Kd.R_append k78 (w0 := (w5.alloc (.cells #[.int .i64 (tagF x), .string sv] 78))) (W := (w5.alloc (.cells #[.int .i64 (tagF x), .string sv] 78))) w2.heap.size rfl (.tmp 43) (.tmp 45) 79 78 (.agg #[.int .i64 0, .string ⟨#[]⟩]) 24 rfl Tryd.underlying79 info_field_e rfl (by decide) (by decide) (.slice A4 (i + 1) c4) (⟨35, ⟨#[wb]⟩⟩ :: (sl.take i).map (fieldF a)) ⟨tagF x, sv⟩ [.int .i64 (tagF x), .string sv] (fun k => ∀ ad, As = some ad → k ≠ ad.block) (fun _ => False) (by rfl) (by rw [World.size_alloc]; rfl) (k78_mkM _ _ _ ⟨tagF x, sv⟩) (fun _ h => h.elim) HFr.out HRX.out (Below.refl _ _) HBs.out (by rw [HLm.out]; omega) ?_; intro v8 w8 hR8 hb8 hg8 hat8; have HFin := Aside0.mk (HEnd.out v8 w8 hR8 hb8 hg8)))
          rw [← HAd.out]
          go_roundw
          case rel => exact ⟨i + 1, by rw [show ((i + 1 : Nat) : Int) = (i : Int) + 1 by omega], by omega, ⟨HFin.out.1⟩, ⟨HFin.out.2.1⟩, ⟨HFin.out.2.2.1⟩, ⟨HFin.out.2.2.2⟩⟩
          case measure =>
            show sl.length - ((i : Int) + 1).toNat < sl.length - ((i : Int)).toNat
            omega
        · have hx2 : 2 ≤ x := by omega
          have HNm := Aside0.mk (fun b W => tell_name_n b x hx2 W)
          have HNb := Aside0.mk (fun b W => tell_number_x b x ⟨hx2, hx.2⟩ W)
          have hgn := hxm hx2
          have HIt : Aside0 (∀ W, Aside0 (Tabs_ W) → Calls Tryd.prog 49 #[.int .i64 (getN a x)] W fun e w' => e = .returned (.string (digitsB (getN a x))) ∧ Below W.heap.size W w') := ⟨fun W hT => strconv_Itoa.calls (getN a x) _ W hT (by unfold strconv_Itoa.f; rw [if_pos ⟨hgn.1, by omega⟩])⟩
          have HC0 : Aside0 ((tellCells a)[offT x]? = some (.int .i64 (getN a x))) := ⟨cell_num a x ⟨hx2, hx.2⟩⟩
          have HFx : Aside0 (fieldF a x = ⟨tagF x, digitsB (getN a x)⟩) := ⟨by unfold fieldF textF; rw [if_neg hxn]⟩
          clear hxn hxm hgn hx2
          generalize getN a x = n at *
          generalize digitsB n = sv at *
          generalize offT x = j at *
          go_wp2_with (first
            | (go_at_call 47; refine (HPl.out _).mono ?_; rintro en w5 ⟨rfl, hb5⟩; have hc5 : (w5.alloc (.cells #[.int .i64 (tagF x), .string ⟨#[]⟩] 78)).cell? ⟨w.heap.size, j, none⟩ = some (.int .i64 n) := (blk_cell (blk_alloc (blk_below BK.out hb5) _) j).trans HC0.out; have HB5 := Aside0.mk hb5; clear hb5)
            | (go_at_call 48; refine (HNm.out _ _).mono ?_; rintro en w6 ⟨rfl, hh⟩; obtain rfl := hh.symm; clear hh)
            | (go_at_call 50; refine (HNb.out _ _).mono ?_; rintro en w6 ⟨rfl, hh⟩; obtain rfl := hh.symm; clear hh)
            | (go_at_call 49; go_loud (refine (HIt.out _ ⟨hT_.out.below ((B.out.trans (HB5.out.mono B.out.size)).alloc (by have q1 := HB5.out.size; have q2 := B.out.size; omega) _)⟩).mono ?_); rintro en w7 ⟨rfl, hb7⟩; have hbk7 := blk_below (blk_new w5 (.cells #[.int .i64 (tagF x), .string ⟨#[]⟩] 78)) hb7; have hc7 := fun i => blk_cell hbk7 i; have hfz7 := fld_free hbk7 1; have hb57 : Below wr.heap.size wr w7 := (HB5.out.trans ((Below.refl _ _).alloc HB5.out.size _)).trans (hb7.mono (by have q1 := HB5.out.size; rw [World.size_alloc]; omega)); have hbw : Below wr.heap.size wr (w7.setCell ⟨w5.heap.size, 1, none⟩ (.string sv)) := hb57.setCell (by exact HB5.out.size) _; have HFr : Aside0 (∀ k, (w7.setCell ⟨w5.heap.size, 1, none⟩ (.string sv)).heap.size ≤ k → ∀ ad, As = some ad → k ≠ ad.block) := ⟨fun k hk ad2 h => by have q1 := HSb.out ad2 h; have q2 := hbw.size; have q3 := HT.out.size; omega⟩; have HRX := Aside0.mk (Kd.R_below HR.out hbw); have HBs : Aside0 (w2.heap.size ≤ (w7.setCell ⟨w5.heap.size, 1, none⟩ (.string sv)).heap.size) := ⟨by have q1 := HS4.out; have q2 := hbw.size; have q3 := HT.out.size; omega⟩; have HEnd := Aside0.mk (enc_step a sl As i x sv wb w w2.heap.size w4 wr (w7.setCell ⟨w5.heap.size, 1, none⟩ (.string sv)) A4 c4 HR.out B.out BK.out HT.out HTk.out HFx.out hbw HW2.out); clear hbw hb57 hb7)
            | (at_builtin; go_loud (refine Kd.R_append k78 (w0 := (w7.setCell ⟨w5.heap.size, 1, none⟩ (.string sv))) (W := (w7.setCell ⟨w5.heap.size, 1, none⟩ (.string sv))) w2.heap.size rfl (.tmp 43) (.tmp 45) 79 78 (.agg #[.int .i64 0, .string ⟨#[]⟩]) 24 rfl Tryd.underlying79 info_field_e rfl (by decide) (by decide) (.slice A4 (i + 1) c4) (⟨35, ⟨#[wb]⟩⟩ :: (sl.take i).map (fieldF a)) ⟨tagF x, sv⟩ [.int .i64 (tagF x), .string sv] (fun k => ∀ ad, As = some ad → k ≠ ad.block) (fun _ => False) (by rfl) (by first | rfl | (rw [World.size_setCell]; rfl)) (k78_mkM _ _ _ ⟨tagF x, sv⟩) (fun _ h => h.elim) HFr.out HRX.out (Below.refl _ _) HBs.out (by rw [HLm.out]; omega) ?_); intro v8 w8 hR8 hb8 hg8 hat8; have HFin := Aside0.mk (HEnd.out v8 w8 hR8 hb8 hg8)))
          rw [← HAd.out]
          go_roundw
          case rel => exact ⟨i + 1, by rw [show ((i + 1 : Nat) : Int) = (i : Int) + 1 by omega], by omega, ⟨HFin.out.1⟩, ⟨HFin.out.2.1⟩, ⟨HFin.out.2.2.1⟩, ⟨HFin.out.2.2.2⟩⟩
          case measure =>
            show sl.length - ((i : Int) + 1).toNat < sl.length - ((i : Int)).toNat
            omega
      · have hie : i = sl.length := by omega
        subst hie
        have k1 : decide (((sl.length : Nat) : Int) < (sl.length : Int)) = false := by rw [decide_eq_false_iff_not]; omega
        rw [List.take_length] at HC4 HLm HR Hc4
        have hl1 : ((⟨35, ⟨#[wb]⟩⟩ : S78) :: sl.map (fieldF a)).length = sl.length + 1 := by rw [List.length_cons, List.length_map]
        have HFo : Aside0 (∀ W, Below wr.heap.size wr W → Calls Tryd.prog 51 #[.slice A4 (sl.length + 1) c4] W fun e w' => e = .returned (.tuple #[.string res.1, .int .i64 res.2]) ∧ Below W.heap.size W w') := ⟨fun W hW => by
          have h := tag_Forms.calls A4 c4 (⟨35, ⟨#[wb]⟩⟩ :: sl.map (fieldF a)) res.1 res.2 W ⟨hT_.out.below (B.out.trans (hW.mono B.out.size))⟩ (Kd.C_below HC4.out hW) Hc4.out (by rw [HE.out]; unfold tag_Forms.f; rw [if_pos HSmf.out])
          rw [hl1] at h
          exact h⟩
        clear HC4 Hc4 HR hl1 HLm
        go_wp2_with (go_at_call 51; ((with_reducible refine (HFo.out _ ?_).mono ?_)); (case refine_1 => exact (by first | exact Below.refl _ _ | exact Below.drew (Below.refl _ _) | exact pw_below_drewN (Below.refl _ _) _)); rintro en w9 ⟨rfl, hb9⟩; have B9 := Aside0.mk (B.out.trans ((show Below wr.heap.size wr w9 from ⟨hb9.os, hb9.tape, hb9.output, hb9.size, hb9.block⟩).mono B.out.size)); clear hb9)
        go_ret2
        exact ⟨rfl, B9.out⟩
def tell_Encode.f (a0 : Int) (a1 a2 : ByteArray) (a3 a4 a5 a6 a7 a8 a9 : Int) : Option (ByteArray × Int) := if a1.size ≤ 140737488351232 ∧ a2.size ≤ 140737488351232 then some (encT ⟨a0, a1, a2, a3, a4, a5, a6, a7, a8, a9⟩) else none
theorem tell_Encode.calls (a0_0 : Int) (a0_1 a0_2 : ByteArray) (a0_3 a0_4 a0_5 a0_6 a0_7 a0_8 a0_9 : Int) (r1 : ByteArray) (r2 : Int) (w : World) (hT_ : Aside0 (Tabs_ w)) (h : tell_Encode.f a0_0 a0_1 a0_2 a0_3 a0_4 a0_5 a0_6 a0_7 a0_8 a0_9 = some (r1, r2)) :
    Calls Tryd.prog 15 #[.agg #[.int .i64 a0_0, .string a0_1, .string a0_2, .int .i64 a0_3, .int .i64 a0_4, .int .i64 a0_5, .int .i64 a0_6, .int .i64 a0_7, .int .i64 a0_8, .int .i64 a0_9]] w fun e w' => e = .returned (.tuple #[.string r1, .int .i64 r2]) ∧ Below w.heap.size w w' := by
  unfold tell_Encode.f at h
  by_cases c : a0_1.size ≤ 140737488351232 ∧ a0_2.size ≤ 140737488351232
  · rw [if_pos c] at h
    have hw := tell_Encode_walk ⟨a0_0, a0_1, a0_2, a0_3, a0_4, a0_5, a0_6, a0_7, a0_8, a0_9⟩ w hT_ c.1 c.2
    rw [Option.some.inj h] at hw
    exact hw
  · rw [if_neg c] at h; cases h
end Go.Proofs.YtgfigkfcmkdjdaaDoor.B
end
