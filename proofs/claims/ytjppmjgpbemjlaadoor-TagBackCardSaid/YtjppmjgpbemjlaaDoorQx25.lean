/- Each Go function that the laws of this seat reach, as a plain Lean function, and its contract: the machine's call does what that function says. -/
import Derived.Test.YtjppmjgpbemjlaaDoorQx0
import Derived.Test.YtjppmjgpbemjlaaDoorQx1
import Derived.Test.YtjppmjgpbemjlaaDoorQx9
import Derived.Test.YtjppmjgpbemjlaaDoorQx13
import Derived.Test.YtjppmjgpbemjlaaDoorQx15
import Derived.Test.YtjppmjgpbemjlaaDoorQx16
import Derived.Test.YtjppmjgpbemjlaaDoorQx22
namespace Go.Proofs.YtjppmjgpbemjlaaDoor.Q
open Go.RowKit Go.Proofs.YtjppmjgpbemjlaaDoorW.PrintWords Go.Proofs.YtjppmjgpbemjlaaDoorW.PrintLast Go.Proofs.YtjppmjgpbemjlaaDoorW.PrintMore
attribute [local go_sem] max2_int min2_int max_two min_two max_three min_three max_four min_four   -- for this text's walks alone
set_option linter.unusedVariables false
set_option linter.unusedSimpArgs false

--PART
/-! ### spigotlaw08_TagBack: function 5 -/
--needs 7 16 10 13 12
def TrueIs (w : World) (e : Ending) (w' : World) : Prop := e = .returned (.bool true) ∧ Below w.heap.size w w'
theorem TrueIs.mk_ {a : Bool} {w w' : World} (h : a = true) (hw : Below w.heap.size w w') : TrueIs w (.returned (.bool a)) w' := by subst h; exact ⟨rfl, hw⟩
theorem formsL_pos : ∀ (l : List (Int × List UInt8)), (formsL l).2 = 0 → ∀ f ∈ l, 1 ≤ f.1
  | [], _ => by simp
  | f :: l, h => by
    obtain ⟨h1, h2, _⟩ := formsL_cons f l h
    obtain ⟨_, h3, _⟩ := formL_ok f.1 f.2 h1
    intro g hg
    rcases List.mem_cons.1 hg with e | e
    · rw [e]; exact h3
    · exact formsL_pos l h2 g e
theorem mkF_back (l : List S24) (h : ∀ f ∈ l.map pairF, 1 ≤ f.1) : ((l.map pairF).map readF).map mkF = l := by
  rw [List.map_map, List.map_map]
  conv => rhs; rw [← List.map_id l]
  refine List.map_congr_left fun x hx => ?_
  have h1 : 1 ≤ x.f0 := h (pairF x) (List.mem_map_of_mem hx)
  cases x with
  | mk a b =>
    simp only [Function.comp, pairF, readF, mkF, id]
    have e : ((a.toNat : Nat) : Int) = a := by have : 1 ≤ a := h1; omega
    rw [e]
theorem C_prefix {α : Type} {d : Kd α} {w : World} {A : Option Addr} {n m : Nat} {xs : List α} (h : Kd.C d w A n xs) (hm : m ≤ n) : Kd.C d w A m (xs.take m) := by
  have h1 := h.1
  refine ⟨by rw [List.length_take]; omega, by have := h.2.1; omega, fun hp => ?_⟩
  obtain ⟨ad, e, hc⟩ := h.2.2 (by omega)
  refine ⟨ad, e, fun j p hj => hc j p ?_⟩
  rw [List.getElem?_take] at hj
  split at hj
  · exact hj
  · cases hj
theorem cell_new_ (W : World) (C : Array Value) (e : Nat) (j : Nat) : ((W.alloc (.cells C e)).drew).cell? ((⟨W.heap.size, 0, none⟩ : Addr).add j) = C[j]? := by
  have h : (⟨W.heap.size, 0, none⟩ : Addr).add j = ⟨W.heap.size, j, none⟩ := by
    unfold Addr.add; by_cases h : j = 0 <;> simp [h]
  rw [h]
  exact World.cell?_alloc_mark W C e (0, 0) j
/-- What the law tells of a text that is formed, and of its beginnings. -/
theorem forms_facts (l0 : List S24) (h : (allFormsL (l0.map pairF)).2 = 0) : l0.length ≤ 64 ∧ (allFormsL (l0.map pairF)).1.length ≤ 33216 ∧
    tag_Fields.f ⟨(allFormsL (l0.map pairF)).1.toArray⟩ = some (l0, ((allFormsL (l0.map pairF)).1.length : Int), 0) ∧
    (∀ r ∈ runesL (allFormsL (l0.map pairF)).1, r ≠ 65533) ∧
    ∀ s : ByteArray, (∃ p, Bnd (allFormsL (l0.map pairF)).1 p ∧ s.data.toList = (allFormsL (l0.map pairF)).1.take p) → ∃ (m k e : Nat), m ≤ l0.length ∧ tag_Fields.f s = some (l0.take m, (k : Int), (e : Int)) ∧ (e = 0 ∧ k = s.size ∨ e = 82 ∧ k < s.size) := by
  have h64 : l0.length ≤ 64 := by
    rcases Nat.lt_or_ge 64 l0.length with g | g
    · unfold allFormsL at h; rw [if_pos (by simpa using g)] at h; simp at h
    · exact g
  have e : allFormsL (l0.map pairF) = formsL (l0.map pairF) := by unfold allFormsL; rw [if_neg (by rw [List.length_map]; omega)]
  rw [e] at h ⊢
  have hl := formsL_len (l0.map pairF)
  rw [List.length_map] at hl
  have hpos := formsL_pos _ h
  have hsz : ∀ l : List UInt8, (⟨l.toArray⟩ : ByteArray).size = l.length := fun l => sz_lit l
  refine ⟨h64, by omega, ?_, formsL_runes _ h, ?_⟩
  · unfold tag_Fields.f
    have e2 : (⟨(formsL (l0.map pairF)).1.toArray⟩ : ByteArray).data.toList = (formsL (l0.map pairF)).1 := rfl
    rw [if_pos (by rw [hsz]; unfold big; omega), e2, fieldsL_formed _ 0 0 h (by rw [List.length_map]; omega)]
    simp only
    rw [mkF_back _ hpos, Nat.zero_add]; rfl
  · rintro s ⟨p, hb, hs⟩
    have hp := bnd_le hb
    have hss : s.size = p := by
      have := congrArg List.length hs
      rw [size_list, List.length_take] at this; omega
    obtain ⟨m, hm, h1, h2⟩ := fieldsL_cut (l0.map pairF) 0 0 p h (by rw [List.length_map]; omega) hb
    rw [List.length_map] at hm
    refine ⟨m, (fieldsL s.data.toList 0 0).2.1, (fieldsL s.data.toList 0 0).2.2, hm, ?_, ?_⟩
    · unfold tag_Fields.f
      rw [if_pos (by unfold big; omega)]
      rw [hs, h1, ← List.map_take, mkF_back _ (fun f hf => hpos f (by
        rw [List.map_take] at hf; exact List.mem_of_mem_take hf))]
    · rw [hs]
      rcases h2 with g | g
      · left; rw [g]; exact ⟨rfl, by simp only; omega⟩
      · right; exact ⟨g.1, by omega⟩
set_option maxHeartbeats 8000000 in
set_option maxRecDepth 100000 in
theorem TagBack_walk (A0 : Option Addr) (c0 : Nat) (l0 : List S24) (a1 : Int) (w : World) (hT_ : Aside0 (Tabs_ w)) (hr0 : Kd.C k24 w A0 l0.length l0) (hc0 : l0.length ≤ c0) (hlo : -9223372036854775808 ≤ a1) (hhi : a1 ≤ 9223372036854775807) :
    Calls Tryd.prog 5 #[.slice A0 l0.length c0, .int .i64 a1] w (TrueIs w) := by
  have HR := Aside0.mk hr0
  have HAw := Aside0.mk (spigotlaw08_awake.calls true w hT_ rfl)
  clear hr0
  by_cases h70 : 70 < l0.length
  · have t1 : decide ((70 : Int) < (l0.length : Int)) = true := by rw [decide_eq_true_eq]; omega
    have t2 : decide (70 < l0.length) = true := decide_eq_true h70
    go_enter Tryd.func5, Tryd.ntmps5
    go_wp2_with (go_at_call 7; refine HAw.out.mono ?_; rintro e w1 ⟨rfl, hb1⟩; have HB1 := Aside0.mk hb1; clear hb1)
    go_ret
    exact TrueIs.mk_ rfl HB1.out
  have t1 : decide ((70 : Int) < (l0.length : Int)) = false := by rw [decide_eq_false_iff_not]; omega
  have t2 : decide (70 < l0.length) = false := decide_eq_false h70
  by_cases hneg : a1 < 0
  · have t3 : decide (a1 < 0) = true := decide_eq_true hneg
    go_enter Tryd.func5, Tryd.ntmps5
    go_wp2_with (go_at_call 7; refine HAw.out.mono ?_; rintro e w1 ⟨rfl, hb1⟩; have HB1 := Aside0.mk hb1; clear hb1)
    go_ret
    exact TrueIs.mk_ rfl HB1.out
  have t3 : decide (a1 < 0) = false := decide_eq_false hneg
  go_enter Tryd.func5, Tryd.ntmps5
  go_wp2_with (go_at_call 7; refine HAw.out.mono ?_; rintro e w1 ⟨rfl, hb1⟩; have HB1 := Aside0.mk hb1; clear hb1)
  clear HAw
  go_loopw [28] (fun v28 wr => ∃ k : Nat, v28 = .int .i64 (k : Int) ∧ k ≤ l0.length ∧ Aside0 (Below w.heap.size w wr) ∧ Aside0 (∀ j (h : j < l0.length), j < k → l0[j].f1.size ≤ 600)) (fun v28 _ => l0.length - (intOf v28).toNat)
  case atStart => exact ⟨0, rfl, Nat.zero_le _, HB1, ⟨fun j h g => absurd g (by omega)⟩⟩
  case round =>
    obtain ⟨k, rfl, hk, HW, HA⟩ := hrel
    have hsz := HW.out.size
    by_cases hlt : k < l0.length
    · have t4 : decide (k < l0.length) = true := decide_eq_true hlt
      obtain ⟨ad, e144, hx0, hx1⟩ := at_T24 HR.out (k : Int) (by omega) (by omega)
      cases e144
      replace hx0 := (HW.out.cell (World.block_lt_of_cell? w _ hx0)).trans hx0
      replace hx1 := (HW.out.cell (World.block_lt_of_cell? w _ hx1)).trans hx1
      rw [rdFF l0 k hlt] at hx0 hx1
      rw [Int.toNat_natCast] at hx0 hx1
      by_cases hs : l0[k].f1.size ≤ 600
      · have HA2 : Aside0 (∀ j (h : j < l0.length), j < k + 1 → l0[j].f1.size ≤ 600) := ⟨fun j h g => by
          rcases Nat.lt_or_ge j k with g2 | g2
          · exact HA.out j h g2
          · obtain rfl : j = k := by omega
            exact hs⟩
        have t5 : decide ((600 : Int) < (l0[k].f1.size : Int)) = false := by rw [decide_eq_false_iff_not]; omega
        have t6 : decide (600 < l0[k].f1.size) = false := decide_eq_false (by omega)
        clear HA hs
        generalize l0[k].f0 = tg at *
        generalize l0[k].f1 = vl at *
        go_wp2
        go_roundw
        case rel => exact ⟨k + 1, by simp, by omega, ⟨HW.out.alloc hsz _⟩, HA2⟩
        case measure => simp [intOf]; omega
      · have t5 : decide ((600 : Int) < (l0[k].f1.size : Int)) = true := by rw [decide_eq_true_eq]; omega
        have t6 : decide (600 < l0[k].f1.size) = true := decide_eq_true (by omega)
        clear HA hs
        generalize l0[k].f0 = tg at *
        generalize l0[k].f1 = vl at *
        go_wp2
        go_ret
        exact TrueIs.mk_ rfl (HW.out.alloc hsz _)
    · have t4 : decide (k < l0.length) = false := decide_eq_false hlt
      have hsm : smallF l0 = true := by
        unfold smallF
        rw [List.all_eq_true]
        intro x hx
        obtain ⟨j, hj, rfl⟩ := List.getElem_of_mem hx
        have := HA.out j hj (by omega)
        rw [decide_eq_true_eq]; unfold big; omega
      clear HA hlt
      have HFm : Aside0 (∀ W, Aside0 (Tabs_ W) → Kd.C k24 W A0 l0.length l0 → Calls Tryd.prog 16 #[.slice A0 l0.length c0] W fun e w' => e = .returned (.tuple #[.string ⟨(allFormsL (l0.map pairF)).1.toArray⟩, .int .i64 ((allFormsL (l0.map pairF)).2 : Int)]) ∧ Below W.heap.size W w') :=
        ⟨fun W hT hC => tag_Forms.calls A0 c0 l0 _ _ W hT hC hc0 (by unfold tag_Forms.f; rw [if_pos hsm])⟩
      clear hsm
      by_cases herr : (allFormsL (l0.map pairF)).2 = 0
      · obtain ⟨h64, hB, hfd, hru, hcut⟩ := forms_facts l0 herr
        rw [herr] at HFm
        clear herr
        generalize (allFormsL (l0.map pairF)).1 = B at *
        have hBs : (⟨B.toArray⟩ : ByteArray).size = B.length := sz_lit B
        have HFd : Aside0 (∀ W, Calls Tryd.prog 10 #[.string ⟨B.toArray⟩] W fun e w' => ∃ v0_ : Value, e = .returned (.tuple #[v0_, .int .i64 (B.length : Int), .int .i64 0]) ∧ Kd.R k24 24 w' W.heap.size (fun _ => True) v0_ l0 ∧ Below W.heap.size W w') := ⟨fun W => tag_Fields.calls _ _ _ _ W hfd⟩
        have HPl : Aside0 (∀ (W : World) (A : Option Addr) (c : Nat) (l : List S24), l.length ≤ 64 → Kd.C k24 W A l.length l → l.length ≤ c → Calls Tryd.prog 13 #[.slice A l.length c] W fun e w' => ∃ v0_ : Value, e = .returned v0_ ∧ Kd.R k28 28 w' W.heap.size (fun _ => True) v0_ (l.map plainF) ∧ Below W.heap.size W w') :=
          ⟨fun W A c l h1 h2 h3 => spigotlaw08_plain.calls A c l _ W h2 h3 (by unfold spigotlaw08_plain.f; rw [if_pos (by omega)])⟩
        have HSm : Aside0 (∀ (W : World) (A A' : Option Addr) (c c' : Nat) (l : List S28) (n : Nat), l.length = n → n ≤ 64 → Kd.C k28 W A n l → n ≤ c → Kd.C k28 W A' n l → n ≤ c' → Calls Tryd.prog 12 #[.slice A n c, .slice A' n c'] W fun e w' => e = .returned (.bool true) ∧ Drawn0 W w') :=
          ⟨fun W A A' c c' l n h0 h1 h2 h3 h4 h5 => by subst h0; exact spigotref08_Same.calls A c l A' c' l true W h2 h3 h4 h5 (by unfold spigotref08_Same.f; rw [if_pos (by unfold big; omega), sameGs_refl])⟩
        have HCut := Aside0.mk hcut
        have HRu := Aside0.mk hru
        have HBs := Aside0.mk hBs
        have HB0 := Aside0.mk hB
        have HCv := fun (W : World) => runes_conv (P := Tryd.prog) W 9 47 21 (⟨B.toArray⟩ : ByteArray) Tryd.underlying9 Tryd.underlying47 Tryd.underlying21 (by rw [hBs]; omega)
        have HCV := Aside0.mk HCv
        clear hfd hru hcut HCv
        have t5 : (((B.length : Nat) : Int) != ((⟨B.toArray⟩ : ByteArray).size : Int)) = false := by rw [hBs]; simp
        clear hBs hB
        by_cases hR0 : (runesL B).length = 0
        · have t6 : ((((runesL B).length : Nat) : Int) == 0) = true := by rw [hR0]; rfl
          go_wp2_with (go_at_call 16; with_reducible refine (HFm.out _ ⟨hT_.out.below HW.out⟩ (Kd.C_below HR.out HW.out)).mono ?_; rintro e w2 ⟨rfl, hb2⟩; have H2 := Aside0.mk (HW.out.trans (hb2.mono hsz)); clear hb2)
          go_wp2_with (go_at_call 10; with_reducible refine (HFd.out _).mono ?_; rintro e w3 ⟨v0_, rfl, hR3, hb3⟩; have H3 := Aside0.mk (H2.out.trans (hb3.mono H2.out.size)); clear hb3; obtain ⟨A3, c3, rfl, hc3, hC3⟩ := Kd.R_reads hR3; have HC3 := Aside0.mk hC3; clear hC3 hR3)
          go_wp2_with (go_at_call 13; with_reducible refine (HPl.out _ _ _ _ h64 HC3.out hc3).mono ?_; rintro e w4 ⟨v1_, rfl, hR4, hb4⟩; have H4 := Aside0.mk (H3.out.trans (hb4.mono H3.out.size)); clear hb4; obtain ⟨A4, c4, rfl, hc4, hC4⟩ := Kd.R_reads hR4; rw [List.length_map] at hC4 hc4; have HC4 := Aside0.mk hC4; clear hC4 hR4)
          go_wp2_with (go_at_call 13; with_reducible refine (HPl.out _ _ _ _ h64 (Kd.C_below HR.out H4.out) hc0).mono ?_; rintro e w5 ⟨v1_, rfl, hR5, hb5⟩; have H5 := Aside0.mk (H4.out.trans (hb5.mono H4.out.size)); have HC45 := Aside0.mk (Kd.C_below HC4.out hb5); clear hb5; obtain ⟨A5, c5, rfl, hc5, hC5⟩ := Kd.R_reads hR5; rw [List.length_map] at hC5 hc5; have HC5 := Aside0.mk hC5; clear hC5 hR5)
          go_wp2_with (go_at_call 12; with_reducible refine (HSm.out _ _ _ _ _ _ _ (List.length_map _) h64 HC45.out hc4 HC5.out hc5).mono ?_; rintro e w6 ⟨rfl, hd6⟩; have H6 := Aside0.mk (H5.out.trans (hd6.below.mono H5.out.size)); clear hd6; obtain ⟨cap, C, hcv, hcap, hCs, hC⟩ := HCV.out w6)
          go_ret
          exact TrueIs.mk_ rfl (H6.out.drew.alloc (by have := H6.out.size; exact this) _)
        · have t6 : ((((runesL B).length : Nat) : Int) == 0) = false := by rw [beq_eq_false_iff_ne]; omega
          obtain ⟨m, hm, hmlt⟩ : ∃ m : Nat, a1 % (((runesL B).length : Nat) : Int) = (m : Int) ∧ m < (runesL B).length :=
            ⟨(a1 % (((runesL B).length : Nat) : Int)).toNat, (Int.toNat_of_nonneg (Int.emod_nonneg _ (by omega))).symm, by
              have h1 := Int.emod_lt_of_pos a1 (show (0 : Int) < (((runesL B).length : Nat) : Int) by omega)
              have h2 := Int.emod_nonneg a1 (show (((runesL B).length : Nat) : Int) ≠ 0 by omega)
              omega⟩
          obtain ⟨p, hp, hs2⟩ := runes_prefix _ B (Nat.le_refl _) HRu.out m
          have HCv2 : Aside0 (∀ (W : World) (cap : Nat) (C : Array Value), C.size = cap → (runesL B).length ≤ cap → (∀ j, j < (runesL B).length → C[j]? = some (.int .i32 (((runesL B).getD j 0 : Nat) : Int))) →
              (convert 47 9 (.slice (some ⟨W.heap.size, 0, none⟩) m cap)).run Tryd.prog ((W.alloc (.cells C 21)).drew) = .ok (.string (runesBytes (((runesL B).take m).map fun (r : Nat) => (r : Int)))) ((W.alloc (.cells C 21)).drew)) :=
            ⟨fun W cap C h1 h2 h3 => by
              rw [List.map_take]
              refine run_convert_runes _ _ _ _ _ _ _ _ (by rw [List.length_map]; omega) Tryd.underlying47 Tryd.underlying21 Tryd.underlying9 (fun j hj => ?_)
              rw [List.length_map] at hj
              have := h3 j hj
              have e : ((runesL B).map fun (r : Nat) => (r : Int)).getD j 0 = (((runesL B).getD j 0 : Nat) : Int) := by simp [List.getD, hj]
              rw [e, ← this]
              exact cell_new_ W C _ j⟩
          obtain ⟨m', kk, ee, hm', hf2, hcase⟩ := HCut.out _ ⟨p, hp, hs2⟩
          clear hs2 hp
          generalize runesBytes (((runesL B).take m).map fun (r : Nat) => (r : Int)) = s2 at *
          have hll : (l0.take m').length = m' := by rw [List.length_take]; omega
          have HR2 : Aside0 (Kd.C k24 w A0 (l0.take m').length (l0.take m')) := ⟨by rw [hll]; exact C_prefix HR.out hm'⟩
          have hl2 : (l0.take m').length ≤ l0.length := by omega
          clear hll
          generalize l0.take m' = l2 at *
          have hl64 : l2.length ≤ 64 := by omega
          have hlc : l2.length ≤ c0 := by omega
          have t7 : decide ((l0.length : Int) < (l2.length : Int)) = false := by rw [decide_eq_false_iff_not]; omega
          have t8 : decide (l0.length < l2.length) = false := decide_eq_false (by omega)
          have HFd2 : Aside0 (∀ W, Calls Tryd.prog 10 #[.string s2] W fun e w' => ∃ v0_ : Value, e = .returned (.tuple #[v0_, .int .i64 (kk : Int), .int .i64 (ee : Int)]) ∧ Kd.R k24 24 w' W.heap.size (fun _ => True) v0_ l2 ∧ Below W.heap.size W w') := ⟨fun W => tag_Fields.calls _ _ _ _ W hf2⟩
          clear hf2 hm'
          rcases hcase with ⟨rfl, rfl⟩ | ⟨rfl, hks⟩
          · have t9 : (((s2.size : Nat) : Int) == (s2.size : Int)) = true := by simp
            go_wp2_with (go_at_call 16; with_reducible refine (HFm.out _ ⟨hT_.out.below HW.out⟩ (Kd.C_below HR.out HW.out)).mono ?_; rintro e w2 ⟨rfl, hb2⟩; have H2 := Aside0.mk (HW.out.trans (hb2.mono hsz)); clear hb2)
            go_wp2_with (go_at_call 10; with_reducible refine (HFd.out _).mono ?_; rintro e w3 ⟨v0_, rfl, hR3, hb3⟩; have H3 := Aside0.mk (H2.out.trans (hb3.mono H2.out.size)); clear hb3; obtain ⟨A3, c3, rfl, hc3, hC3⟩ := Kd.R_reads hR3; have HC3 := Aside0.mk hC3; clear hC3 hR3)
            go_wp2_with (go_at_call 13; with_reducible refine (HPl.out _ _ _ _ h64 HC3.out hc3).mono ?_; rintro e w4 ⟨v1_, rfl, hR4, hb4⟩; have H4 := Aside0.mk (H3.out.trans (hb4.mono H3.out.size)); clear hb4; obtain ⟨A4, c4, rfl, hc4, hC4⟩ := Kd.R_reads hR4; rw [List.length_map] at hC4 hc4; have HC4 := Aside0.mk hC4; clear hC4 hR4)
            go_wp2_with (go_at_call 13; with_reducible refine (HPl.out _ _ _ _ h64 (Kd.C_below HR.out H4.out) hc0).mono ?_; rintro e w5 ⟨v1_, rfl, hR5, hb5⟩; have H5 := Aside0.mk (H4.out.trans (hb5.mono H4.out.size)); have HC45 := Aside0.mk (Kd.C_below HC4.out hb5); clear hb5; obtain ⟨A5, c5, rfl, hc5, hC5⟩ := Kd.R_reads hR5; rw [List.length_map] at hC5 hc5; have HC5 := Aside0.mk hC5; clear hC5 hR5)
            go_wp2_with (go_at_call 12; with_reducible refine (HSm.out _ _ _ _ _ _ _ (List.length_map _) h64 HC45.out hc4 HC5.out hc5).mono ?_; rintro e w6 ⟨rfl, hd6⟩; have H6 := Aside0.mk (H5.out.trans (hd6.below.mono H5.out.size)); clear hd6; obtain ⟨cap, C, hcv, hcap, hCs, hC⟩ := HCV.out w6; have hcv2 := HCv2.out w6 cap C hCs hcap hC; have hmcap : m ≤ cap := Nat.le_trans (Nat.le_of_lt hmlt) hcap; have H7 := Aside0.mk (Below.drew (H6.out.alloc (H6.out.size) (.cells C 21))); clear hC hCs hcap)
            go_wp2_with (go_at_call 10; with_reducible refine (HFd2.out _).mono ?_; rintro e w8 ⟨v0_, rfl, hR8, hb8⟩; have H8 := Aside0.mk (H7.out.trans (hb8.mono H7.out.size)); clear hb8; obtain ⟨A8, c8, rfl, hc8, hC8⟩ := Kd.R_reads hR8; have HC8 := Aside0.mk hC8; clear hC8 hR8)
            refine start_ (n := 16) (S := fun w' => True) (ds := []) #[false, false, false, false, false, false, false, false, false, false, false, false, false, false, false, false] (by kernel_rfl) rfl rfl trivial (fun hHeld => ?_)
            refine pure_ (i := 0) (N := some 86) (v := ?_) (a' := ?_) #[true, false, false, false, false, false, false, false, false, false, false, false, false, false, false, false] rfl rfl (by kernel_rfl) (fun _ _ _ h => h) (Or.inl ⟨by rfl, ?_⟩) ?_ ?_
            rotate_left
            · intro w'
              go_simp
              with_reducible rfl
            rotate_left
            · simp only [Act.put, List.setIfInBounds_toArray, List.set_cons_zero, List.set_cons_succ, i64_w, i32_w]
              rfl
            refine pure_ (i := 1) (N := some 87) (v := ?_) (a' := ?_) #[true, true, false, false, false, false, false, false, false, false, false, false, false, false, false, false] rfl rfl (by kernel_rfl) (fun _ _ _ h => h) (Or.inl ⟨by rfl, ?_⟩) ?_ ?_
            rotate_left
            · intro w'
              go_simp
              with_reducible rfl
            rotate_left
            · simp only [Act.put, List.setIfInBounds_toArray, List.set_cons_zero, List.set_cons_succ, i64_w, i32_w]
              rfl
            refine pure_ (i := 2) (N := some 88) (v := ?_) (a' := ?_) #[true, true, true, false, false, false, false, false, false, false, false, false, false, false, false, false] rfl rfl (by kernel_rfl) (fun _ _ _ h => h) (Or.inl ⟨by rfl, ?_⟩) ?_ ?_
            rotate_left
            · intro w'
              go_simp
              with_reducible rfl
            rotate_left
            · simp only [Act.put, List.setIfInBounds_toArray, List.set_cons_zero, List.set_cons_succ, i64_w, i32_w]
              rfl
            refine pure_ (i := 3) (N := some 89) (v := ?_) (a' := ?_) #[true, true, true, true, false, false, false, false, false, false, false, false, false, false, false, false] rfl rfl (by kernel_rfl) (fun _ _ _ h => h) (Or.inl ⟨by rfl, ?_⟩) ?_ ?_
            rotate_left
            · intro w'
              go_simp
              with_reducible rfl
            rotate_left
            · simp only [Act.put, List.setIfInBounds_toArray, List.set_cons_zero, List.set_cons_succ, i64_w, i32_w]
              rfl
            refine pure_ (i := 4) (N := some 90) (v := ?_) (a' := ?_) #[true, true, true, true, true, false, false, false, false, false, false, false, false, false, false, false] rfl rfl (by kernel_rfl) (fun _ _ _ h => h) (Or.inl ⟨by rfl, ?_⟩) ?_ ?_
            rotate_left
            · intro w'
              go_simp
              with_reducible rfl
            rotate_left
            · simp only [Act.put, List.setIfInBounds_toArray, List.set_cons_zero, List.set_cons_succ, i64_w, i32_w]
              rfl
            refine pure_ (i := 5) (N := some 91) (v := ?_) (a' := ?_) #[true, true, true, true, true, true, false, false, false, false, false, false, false, false, false, false] rfl rfl (by kernel_rfl) (fun _ _ _ h => h) (Or.inl ⟨by rfl, ?_⟩) ?_ ?_
            rotate_left
            · intro w'
              go_simp
              with_reducible rfl
            rotate_left
            · simp only [Act.put, List.setIfInBounds_toArray, List.set_cons_zero, List.set_cons_succ, i64_w, i32_w]
              rfl
            refine pure_ (i := 6) (N := some 92) (v := ?_) (a' := ?_) #[true, true, true, true, true, true, true, false, false, false, false, false, false, false, false, false] rfl rfl (by kernel_rfl) (fun _ _ _ h => h) (Or.inl ⟨by rfl, ?_⟩) ?_ ?_
            rotate_left
            · intro w'
              go_simp
              with_reducible rfl
            rotate_left
            · simp only [Act.put, List.setIfInBounds_toArray, List.set_cons_zero, List.set_cons_succ, i64_w, i32_w]
              rfl
            refine pure_ (i := 8) (N := some 94) (v := ?_) (a' := ?_) #[true, true, true, true, true, true, true, false, true, false, false, false, false, false, false, false] rfl rfl (by kernel_rfl) (fun _ _ _ h => h) (Or.inl ⟨by rfl, ?_⟩) ?_ ?_
            rotate_left
            · intro w'
              go_simp
              with_reducible rfl
            rotate_left
            · simp only [Act.put, List.setIfInBounds_toArray, List.set_cons_zero, List.set_cons_succ, i64_w, i32_w]
              rfl
            refine pure_ (i := 9) (N := some 95) (v := ?_) (a' := ?_) #[true, true, true, true, true, true, true, false, true, true, false, false, false, false, false, false] rfl rfl (by kernel_rfl) (fun _ _ _ h => h) (Or.inl ⟨by rfl, ?_⟩) ?_ ?_
            rotate_left
            · intro w'
              go_simp
              with_reducible rfl
            rotate_left
            · simp only [Act.put, List.setIfInBounds_toArray, List.set_cons_zero, List.set_cons_succ, i64_w, i32_w]
              rfl
            refine pure_ (i := 10) (N := some 96) (v := ?_) (a' := ?_) #[true, true, true, true, true, true, true, false, true, true, true, false, false, false, false, false] rfl rfl (by kernel_rfl) (fun _ _ _ h => h) (Or.inl ⟨by rfl, ?_⟩) ?_ ?_
            rotate_left
            · intro w'
              go_simp
              with_reducible rfl
            rotate_left
            · simp only [Act.put, List.setIfInBounds_toArray, List.set_cons_zero, List.set_cons_succ, i64_w, i32_w]
              rfl
            refine pure_ (i := 11) (N := some 97) (v := ?_) (a' := ?_) #[true, true, true, true, true, true, true, false, true, true, true, true, false, false, false, false] rfl rfl (by kernel_rfl) (fun _ _ _ h => h) (Or.inl ⟨by rfl, ?_⟩) ?_ ?_
            rotate_left
            · intro w'
              go_simp
              with_reducible rfl
            rotate_left
            · simp only [Act.put, List.setIfInBounds_toArray, List.set_cons_zero, List.set_cons_succ, i64_w, i32_w]
              rfl
            refine one_ (i := 7) (N := some 93) #[true, true, true, true, true, true, true, true, true, true, true, true, false, false, false, false] rfl rfl (by kernel_rfl) (by decide) (fun K hK => ?_)
            refine goes_ Tryd.func13 (by kernel_rfl) rfl #[.slice A8 l2.length c8] (by rfl) rfl rfl (by simp only [List.map_toArray, List.map_cons, List.map_nil]; rfl) ?_
            with_reducible refine (HPl.out _ _ _ _ hl64 (Kd.C_below HC8.out (Below.drew (Below.refl _ _))) hc8).mono ?_
            rintro e w9 ⟨v1_, rfl, hR9, hb9⟩
            refine ⟨_, rfl, ?_⟩
            have H9 := Aside0.mk ((Below.drew H8.out).trans (hb9.mono (Below.drew H8.out).size))
            clear hb9
            obtain ⟨A9, c9, rfl, hc9, hC9⟩ := Kd.R_reads hR9
            have HC9 := Aside0.mk hC9
            clear hC9 hR9
            refine hK.out _ _ trivial (fun hHeld => ?_)
            clear hK K
            refine norm_ (a' := ?_) ?_ ?_
            rotate_left
            · show Act.put _ (some 93) _ = _
              simp only [Act.put, List.setIfInBounds_toArray, List.set_cons_zero, List.set_cons_succ, i64_w, i32_w]
              rfl
            refine one_ (i := 12) (N := some 98) #[true, true, true, true, true, true, true, true, true, true, true, true, true, false, false, false] rfl rfl (by kernel_rfl) (by decide) (fun K hK => ?_)
            refine goes_ Tryd.func13 (by kernel_rfl) rfl #[.slice A0 l2.length c0] (by rfl) rfl rfl (by simp only [List.map_toArray, List.map_cons, List.map_nil]; rfl) ?_
            with_reducible refine (HPl.out _ _ _ _ hl64 (Kd.C_below HR2.out H9.out) hlc).mono ?_
            rintro e w10 ⟨v2_, rfl, hR10, hb10⟩
            refine ⟨_, rfl, ?_⟩
            have H10 := Aside0.mk (H9.out.trans (hb10.mono H9.out.size))
            have HC910 := Aside0.mk (Kd.C_below HC9.out hb10)
            clear hb10
            obtain ⟨A10, c10, rfl, hc10, hC10⟩ := Kd.R_reads hR10
            have HC10 := Aside0.mk hC10
            clear hC10 hR10
            refine hK.out _ _ trivial (fun hHeld => ?_)
            clear hK K
            refine norm_ (a' := ?_) ?_ ?_
            rotate_left
            · show Act.put _ (some 98) _ = _
              simp only [Act.put, List.setIfInBounds_toArray, List.set_cons_zero, List.set_cons_succ, i64_w, i32_w]
              rfl
            refine one_ (i := 13) (N := some 99) #[true, true, true, true, true, true, true, true, true, true, true, true, true, true, false, false] rfl rfl (by kernel_rfl) (by decide) (fun K hK => ?_)
            refine goes_ Tryd.func12 (by kernel_rfl) rfl #[.slice A9 (l2.map plainF).length c9, .slice A10 (l2.map plainF).length c10] (by rfl) rfl rfl (by simp only [List.map_toArray, List.map_cons, List.map_nil]; rfl) ?_
            with_reducible refine (HSm.out _ _ _ _ _ _ _ rfl (by rw [List.length_map]; exact hl64) HC910.out hc9 HC10.out hc10).mono ?_
            rintro e w11 ⟨rfl, hd11⟩
            refine ⟨_, rfl, ?_⟩
            have H11 := Aside0.mk (H10.out.trans (hd11.below.mono H10.out.size))
            clear hd11
            refine hK.out _ _ trivial (fun hHeld => ?_)
            clear hK K
            refine norm_ (a' := ?_) ?_ ?_
            rotate_left
            · show Act.put _ (some 99) _ = _
              simp only [Act.put, List.setIfInBounds_toArray, List.set_cons_zero, List.set_cons_succ, i64_w, i32_w]
              rfl
            refine pure_ (i := 14) (N := some 100) (v := ?_) (a' := ?_) #[true, true, true, true, true, true, true, true, true, true, true, true, true, true, true, false] rfl rfl (by kernel_rfl) (fun _ _ _ h => h) (Or.inl ⟨by rfl, ?_⟩) ?_ ?_
            rotate_left
            · intro w'
              go_simp
              with_reducible rfl
            rotate_left
            · simp only [Act.put, List.setIfInBounds_toArray, List.set_cons_zero, List.set_cons_succ, i64_w, i32_w]
              rfl
            refine pure_ (i := 15) (N := some 101) (v := ?_) (a' := ?_) #[true, true, true, true, true, true, true, true, true, true, true, true, true, true, true, true] rfl rfl (by kernel_rfl) (fun _ _ _ h => h) (Or.inl ⟨by rfl, ?_⟩) ?_ ?_
            rotate_left
            · intro w'
              go_simp
              with_reducible rfl
            rotate_left
            · simp only [Act.put, List.setIfInBounds_toArray, List.set_cons_zero, List.set_cons_succ, i64_w, i32_w]
              rfl
            refine done_ (by kernel_rfl) ?_
            go_wp2
            go_ret
            exact TrueIs.mk_ (by first | rfl | simp) H11.out
          · have t9 : decide (((kk : Nat) : Int) < (s2.size : Int)) = true := by rw [decide_eq_true_eq]; omega
            have t10 : decide (kk < s2.size) = true := decide_eq_true hks
            go_wp2_with (go_at_call 16; with_reducible refine (HFm.out _ ⟨hT_.out.below HW.out⟩ (Kd.C_below HR.out HW.out)).mono ?_; rintro e w2 ⟨rfl, hb2⟩; have H2 := Aside0.mk (HW.out.trans (hb2.mono hsz)); clear hb2)
            go_wp2_with (go_at_call 10; with_reducible refine (HFd.out _).mono ?_; rintro e w3 ⟨v0_, rfl, hR3, hb3⟩; have H3 := Aside0.mk (H2.out.trans (hb3.mono H2.out.size)); clear hb3; obtain ⟨A3, c3, rfl, hc3, hC3⟩ := Kd.R_reads hR3; have HC3 := Aside0.mk hC3; clear hC3 hR3)
            go_wp2_with (go_at_call 13; with_reducible refine (HPl.out _ _ _ _ h64 HC3.out hc3).mono ?_; rintro e w4 ⟨v1_, rfl, hR4, hb4⟩; have H4 := Aside0.mk (H3.out.trans (hb4.mono H3.out.size)); clear hb4; obtain ⟨A4, c4, rfl, hc4, hC4⟩ := Kd.R_reads hR4; rw [List.length_map] at hC4 hc4; have HC4 := Aside0.mk hC4; clear hC4 hR4)
            go_wp2_with (go_at_call 13; with_reducible refine (HPl.out _ _ _ _ h64 (Kd.C_below HR.out H4.out) hc0).mono ?_; rintro e w5 ⟨v1_, rfl, hR5, hb5⟩; have H5 := Aside0.mk (H4.out.trans (hb5.mono H4.out.size)); have HC45 := Aside0.mk (Kd.C_below HC4.out hb5); clear hb5; obtain ⟨A5, c5, rfl, hc5, hC5⟩ := Kd.R_reads hR5; rw [List.length_map] at hC5 hc5; have HC5 := Aside0.mk hC5; clear hC5 hR5)
            go_wp2_with (go_at_call 12; with_reducible refine (HSm.out _ _ _ _ _ _ _ (List.length_map _) h64 HC45.out hc4 HC5.out hc5).mono ?_; rintro e w6 ⟨rfl, hd6⟩; have H6 := Aside0.mk (H5.out.trans (hd6.below.mono H5.out.size)); clear hd6; obtain ⟨cap, C, hcv, hcap, hCs, hC⟩ := HCV.out w6; have hcv2 := HCv2.out w6 cap C hCs hcap hC; have hmcap : m ≤ cap := Nat.le_trans (Nat.le_of_lt hmlt) hcap; have H7 := Aside0.mk (Below.drew (H6.out.alloc (H6.out.size) (.cells C 21))); clear hC hCs hcap)
            go_wp2_with (go_at_call 10; with_reducible refine (HFd2.out _).mono ?_; rintro e w8 ⟨v0_, rfl, hR8, hb8⟩; have H8 := Aside0.mk (H7.out.trans (hb8.mono H7.out.size)); clear hb8; obtain ⟨A8, c8, rfl, hc8, hC8⟩ := Kd.R_reads hR8; have HC8 := Aside0.mk hC8; clear hC8 hR8)
            refine start_ (n := 16) (S := fun w' => True) (ds := []) #[false, false, false, false, false, false, false, false, false, false, false, false, false, false, false, false] (by kernel_rfl) rfl rfl trivial (fun hHeld => ?_)
            refine pure_ (i := 0) (N := some 86) (v := ?_) (a' := ?_) #[true, false, false, false, false, false, false, false, false, false, false, false, false, false, false, false] rfl rfl (by kernel_rfl) (fun _ _ _ h => h) (Or.inl ⟨by rfl, ?_⟩) ?_ ?_
            rotate_left
            · intro w'
              go_simp
              with_reducible rfl
            rotate_left
            · simp only [Act.put, List.setIfInBounds_toArray, List.set_cons_zero, List.set_cons_succ, i64_w, i32_w]
              rfl
            refine pure_ (i := 1) (N := some 87) (v := ?_) (a' := ?_) #[true, true, false, false, false, false, false, false, false, false, false, false, false, false, false, false] rfl rfl (by kernel_rfl) (fun _ _ _ h => h) (Or.inl ⟨by rfl, ?_⟩) ?_ ?_
            rotate_left
            · intro w'
              go_simp
              with_reducible rfl
            rotate_left
            · simp only [Act.put, List.setIfInBounds_toArray, List.set_cons_zero, List.set_cons_succ, i64_w, i32_w]
              rfl
            refine pure_ (i := 2) (N := some 88) (v := ?_) (a' := ?_) #[true, true, true, false, false, false, false, false, false, false, false, false, false, false, false, false] rfl rfl (by kernel_rfl) (fun _ _ _ h => h) (Or.inl ⟨by rfl, ?_⟩) ?_ ?_
            rotate_left
            · intro w'
              go_simp
              with_reducible rfl
            rotate_left
            · simp only [Act.put, List.setIfInBounds_toArray, List.set_cons_zero, List.set_cons_succ, i64_w, i32_w]
              rfl
            refine pure_ (i := 3) (N := some 89) (v := ?_) (a' := ?_) #[true, true, true, true, false, false, false, false, false, false, false, false, false, false, false, false] rfl rfl (by kernel_rfl) (fun _ _ _ h => h) (Or.inl ⟨by rfl, ?_⟩) ?_ ?_
            rotate_left
            · intro w'
              go_simp
              with_reducible rfl
            rotate_left
            · simp only [Act.put, List.setIfInBounds_toArray, List.set_cons_zero, List.set_cons_succ, i64_w, i32_w]
              rfl
            refine pure_ (i := 4) (N := some 90) (v := ?_) (a' := ?_) #[true, true, true, true, true, false, false, false, false, false, false, false, false, false, false, false] rfl rfl (by kernel_rfl) (fun _ _ _ h => h) (Or.inl ⟨by rfl, ?_⟩) ?_ ?_
            rotate_left
            · intro w'
              go_simp
              with_reducible rfl
            rotate_left
            · simp only [Act.put, List.setIfInBounds_toArray, List.set_cons_zero, List.set_cons_succ, i64_w, i32_w]
              rfl
            refine pure_ (i := 5) (N := some 91) (v := ?_) (a' := ?_) #[true, true, true, true, true, true, false, false, false, false, false, false, false, false, false, false] rfl rfl (by kernel_rfl) (fun _ _ _ h => h) (Or.inl ⟨by rfl, ?_⟩) ?_ ?_
            rotate_left
            · intro w'
              go_simp
              with_reducible rfl
            rotate_left
            · simp only [Act.put, List.setIfInBounds_toArray, List.set_cons_zero, List.set_cons_succ, i64_w, i32_w]
              rfl
            refine pure_ (i := 6) (N := some 92) (v := ?_) (a' := ?_) #[true, true, true, true, true, true, true, false, false, false, false, false, false, false, false, false] rfl rfl (by kernel_rfl) (fun _ _ _ h => h) (Or.inl ⟨by rfl, ?_⟩) ?_ ?_
            rotate_left
            · intro w'
              go_simp
              with_reducible rfl
            rotate_left
            · simp only [Act.put, List.setIfInBounds_toArray, List.set_cons_zero, List.set_cons_succ, i64_w, i32_w]
              rfl
            refine pure_ (i := 8) (N := some 94) (v := ?_) (a' := ?_) #[true, true, true, true, true, true, true, false, true, false, false, false, false, false, false, false] rfl rfl (by kernel_rfl) (fun _ _ _ h => h) (Or.inl ⟨by rfl, ?_⟩) ?_ ?_
            rotate_left
            · intro w'
              go_simp
              with_reducible rfl
            rotate_left
            · simp only [Act.put, List.setIfInBounds_toArray, List.set_cons_zero, List.set_cons_succ, i64_w, i32_w]
              rfl
            refine pure_ (i := 9) (N := some 95) (v := ?_) (a' := ?_) #[true, true, true, true, true, true, true, false, true, true, false, false, false, false, false, false] rfl rfl (by kernel_rfl) (fun _ _ _ h => h) (Or.inl ⟨by rfl, ?_⟩) ?_ ?_
            rotate_left
            · intro w'
              go_simp
              with_reducible rfl
            rotate_left
            · simp only [Act.put, List.setIfInBounds_toArray, List.set_cons_zero, List.set_cons_succ, i64_w, i32_w]
              rfl
            refine pure_ (i := 10) (N := some 96) (v := ?_) (a' := ?_) #[true, true, true, true, true, true, true, false, true, true, true, false, false, false, false, false] rfl rfl (by kernel_rfl) (fun _ _ _ h => h) (Or.inl ⟨by rfl, ?_⟩) ?_ ?_
            rotate_left
            · intro w'
              go_simp
              with_reducible rfl
            rotate_left
            · simp only [Act.put, List.setIfInBounds_toArray, List.set_cons_zero, List.set_cons_succ, i64_w, i32_w]
              rfl
            refine pure_ (i := 11) (N := some 97) (v := ?_) (a' := ?_) #[true, true, true, true, true, true, true, false, true, true, true, true, false, false, false, false] rfl rfl (by kernel_rfl) (fun _ _ _ h => h) (Or.inl ⟨by rfl, ?_⟩) ?_ ?_
            rotate_left
            · intro w'
              go_simp
              with_reducible rfl
            rotate_left
            · simp only [Act.put, List.setIfInBounds_toArray, List.set_cons_zero, List.set_cons_succ, i64_w, i32_w]
              rfl
            refine one_ (i := 7) (N := some 93) #[true, true, true, true, true, true, true, true, true, true, true, true, false, false, false, false] rfl rfl (by kernel_rfl) (by decide) (fun K hK => ?_)
            refine goes_ Tryd.func13 (by kernel_rfl) rfl #[.slice A8 l2.length c8] (by rfl) rfl rfl (by simp only [List.map_toArray, List.map_cons, List.map_nil]; rfl) ?_
            with_reducible refine (HPl.out _ _ _ _ hl64 (Kd.C_below HC8.out (Below.drew (Below.refl _ _))) hc8).mono ?_
            rintro e w9 ⟨v1_, rfl, hR9, hb9⟩
            refine ⟨_, rfl, ?_⟩
            have H9 := Aside0.mk ((Below.drew H8.out).trans (hb9.mono (Below.drew H8.out).size))
            clear hb9
            obtain ⟨A9, c9, rfl, hc9, hC9⟩ := Kd.R_reads hR9
            have HC9 := Aside0.mk hC9
            clear hC9 hR9
            refine hK.out _ _ trivial (fun hHeld => ?_)
            clear hK K
            refine norm_ (a' := ?_) ?_ ?_
            rotate_left
            · show Act.put _ (some 93) _ = _
              simp only [Act.put, List.setIfInBounds_toArray, List.set_cons_zero, List.set_cons_succ, i64_w, i32_w]
              rfl
            refine one_ (i := 12) (N := some 98) #[true, true, true, true, true, true, true, true, true, true, true, true, true, false, false, false] rfl rfl (by kernel_rfl) (by decide) (fun K hK => ?_)
            refine goes_ Tryd.func13 (by kernel_rfl) rfl #[.slice A0 l2.length c0] (by rfl) rfl rfl (by simp only [List.map_toArray, List.map_cons, List.map_nil]; rfl) ?_
            with_reducible refine (HPl.out _ _ _ _ hl64 (Kd.C_below HR2.out H9.out) hlc).mono ?_
            rintro e w10 ⟨v2_, rfl, hR10, hb10⟩
            refine ⟨_, rfl, ?_⟩
            have H10 := Aside0.mk (H9.out.trans (hb10.mono H9.out.size))
            have HC910 := Aside0.mk (Kd.C_below HC9.out hb10)
            clear hb10
            obtain ⟨A10, c10, rfl, hc10, hC10⟩ := Kd.R_reads hR10
            have HC10 := Aside0.mk hC10
            clear hC10 hR10
            refine hK.out _ _ trivial (fun hHeld => ?_)
            clear hK K
            refine norm_ (a' := ?_) ?_ ?_
            rotate_left
            · show Act.put _ (some 98) _ = _
              simp only [Act.put, List.setIfInBounds_toArray, List.set_cons_zero, List.set_cons_succ, i64_w, i32_w]
              rfl
            refine one_ (i := 13) (N := some 99) #[true, true, true, true, true, true, true, true, true, true, true, true, true, true, false, false] rfl rfl (by kernel_rfl) (by decide) (fun K hK => ?_)
            refine goes_ Tryd.func12 (by kernel_rfl) rfl #[.slice A9 (l2.map plainF).length c9, .slice A10 (l2.map plainF).length c10] (by rfl) rfl rfl (by simp only [List.map_toArray, List.map_cons, List.map_nil]; rfl) ?_
            with_reducible refine (HSm.out _ _ _ _ _ _ _ rfl (by rw [List.length_map]; exact hl64) HC910.out hc9 HC10.out hc10).mono ?_
            rintro e w11 ⟨rfl, hd11⟩
            refine ⟨_, rfl, ?_⟩
            have H11 := Aside0.mk (H10.out.trans (hd11.below.mono H10.out.size))
            clear hd11
            refine hK.out _ _ trivial (fun hHeld => ?_)
            clear hK K
            refine norm_ (a' := ?_) ?_ ?_
            rotate_left
            · show Act.put _ (some 99) _ = _
              simp only [Act.put, List.setIfInBounds_toArray, List.set_cons_zero, List.set_cons_succ, i64_w, i32_w]
              rfl
            refine pure_ (i := 14) (N := some 100) (v := ?_) (a' := ?_) #[true, true, true, true, true, true, true, true, true, true, true, true, true, true, true, false] rfl rfl (by kernel_rfl) (fun _ _ _ h => h) (Or.inl ⟨by rfl, ?_⟩) ?_ ?_
            rotate_left
            · intro w'
              go_simp
              with_reducible rfl
            rotate_left
            · simp only [Act.put, List.setIfInBounds_toArray, List.set_cons_zero, List.set_cons_succ, i64_w, i32_w]
              rfl
            refine pure_ (i := 15) (N := some 101) (v := ?_) (a' := ?_) #[true, true, true, true, true, true, true, true, true, true, true, true, true, true, true, true] rfl rfl (by kernel_rfl) (fun _ _ _ h => h) (Or.inl ⟨by rfl, ?_⟩) ?_ ?_
            rotate_left
            · intro w'
              go_simp
              with_reducible rfl
            rotate_left
            · simp only [Act.put, List.setIfInBounds_toArray, List.set_cons_zero, List.set_cons_succ, i64_w, i32_w]
              rfl
            refine done_ (by kernel_rfl) ?_
            go_wp2
            go_ret
            exact TrueIs.mk_ (by first | rfl | simp) H11.out
      · have hnil : (allFormsL (l0.map pairF)).1 = [] := by
          unfold allFormsL at herr ⊢
          split at herr
          · rename_i g; rw [if_pos g]
          · rename_i g; rw [if_neg g]; exact formsL_err _ herr
        rw [hnil] at HFm
        have t5 : ((((allFormsL (l0.map pairF)).2 : Nat) : Int) != 0) = true := by rw [bne_iff_ne]; omega
        clear herr hnil
        generalize (allFormsL (l0.map pairF)).2 = er at *
        go_wp2_with (go_at_call 16; with_reducible refine (HFm.out _ ⟨hT_.out.below HW.out⟩ (Kd.C_below HR.out HW.out)).mono ?_; rintro e w2 ⟨rfl, hb2⟩; have HB2 := Aside0.mk hb2; clear hb2)
        go_ret
        exact TrueIs.mk_ (by rfl) (HW.out.trans (HB2.out.mono hsz))
def spigotlaw08_TagBack.f (l0 : List S24) (a1 : Int) : Option Bool := if -9223372036854775808 ≤ a1 ∧ a1 ≤ 9223372036854775807 then some true else none
theorem spigotlaw08_TagBack.calls (A0 : Option Addr) (c0 : Nat) (l0 : List S24) (a1 : Int) (r : Bool) (w : World) (hT_ : Aside0 (Tabs_ w)) (hr0 : Kd.C k24 w A0 l0.length l0) (hc0 : l0.length ≤ c0) (h : spigotlaw08_TagBack.f l0 a1 = some r) :
    Calls Tryd.prog 5 #[.slice A0 l0.length c0, .int .i64 a1] w fun e w' => e = .returned (.bool r) ∧ Below w.heap.size w w' := by
  unfold spigotlaw08_TagBack.f at h
  by_cases c : -9223372036854775808 ≤ a1 ∧ a1 ≤ 9223372036854775807
  · rw [if_pos c] at h
    obtain rfl := Option.some.inj h
    exact TagBack_walk A0 c0 l0 a1 w hT_ hr0 hc0 c.1 c.2
  · rw [if_neg c] at h; cases h

end Go.Proofs.YtjppmjgpbemjlaaDoor.Q
