/- The functions that the law reaches, as plain Lean functions, and their contracts: texts merged. -/
import Derived.Laws.StructEq
import Derived.Test.YtgfigkfcmkdjdaaGreatDoorzAskDecodes2
import Derived.Test.YtgfigkfcmkdjdaaGreatDoorzAskDecodes0
import Derived.Test.YtgfigkfcmkdjdaaGreatDoorzAskDecodes1
import Derived.Test.YtgfigkfcmkdjdaaGreatDoorzAskDecodes3
import Derived.Test.YtgfigkfcmkdjdaaGreatDoorzAskDecodes4
import Derived.Test.YtgfigkfcmkdjdaaGreatDoorzAskDecodes5
import Derived.Test.YtgfigkfcmkdjdaaGreatDoorzAskDecodes6
import Derived.Test.YtgfigkfcmkdjdaaGreatDoorzAskDecodes7
import Derived.Test.YtgfigkfcmkdjdaaGreatDoorzAskDecodes8
import Derived.Test.YtgfigkfcmkdjdaaGreatDoorzAskDecodes9
import Derived.Test.YtgfigkfcmkdjdaaGreatDoorzAskDecodes10
import Derived.Test.YtgfigkfcmkdjdaaGreatDoorzAskDecodes11
import Derived.Test.YtgfigkfcmkdjdaaGreatDoorzAskDecodes12
import Derived.Test.YtgfigkfcmkdjdaaGreatDoorzAskDecodes15
import Derived.Test.YtgfigkfcmkdjdaaGreatDoorzAskDecodes16
import Derived.Test.YtgfigkfcmkdjdaaGreatDoorzAskDecodes17
import Derived.Test.YtgfigkfcmkdjdaaGreatDoorzAskDecodes18
import Derived.Test.YtgfigkfcmkdjdaaGreatDoorzAskDecodes19
import Derived.Test.YtgfigkfcmkdjdaaGreatDoorzAskDecodes20
import Derived.Test.YtgfigkfcmkdjdaaGreatDoorzAskDecodes21
import Derived.Test.YtgfigkfcmkdjdaaGreatDoorzAskDecodes22
import Derived.Test.YtgfigkfcmkdjdaaGreatDoorzAskDecodes23
import Derived.Test.YtgfigkfcmkdjdaaGreatDoorzAskDecodes24
section
namespace Go.Proofs.YtgfigkfcmkdjdaaGreatDoor.B
open Go.RowKit Go.Proofs.YtgfigkfcmkdjdaaGreatDoorW.PrintWords Go.Proofs.YtgfigkfcmkdjdaaGreatDoorW.PrintLast Go.Proofs.YtgfigkfcmkdjdaaGreatDoorW.PrintMore
attribute [local go_sem] max2_int min2_int max_two min_two max_three min_three max_four min_four   -- for this text's walks alone
set_option linter.unusedVariables false
set_option linter.unusedSimpArgs false
section
variable {w : World} {X : Nat → Prop} {g : Nat} {A : Option Addr} {c : Nat} {L : List S74} {b0 b : Nat} {T : TypeId} {Z : Array Value} {F F' : FormS} {k k' : Nat} {cs : Array Value} {W W' : World}
theorem RefBox.below_ (h : RefBox w X g A c L b0 b T Z F k cs W) (hb : Below W.heap.size W W') : RefBox w X g A c L b0 b T Z F k cs W' :=
  ⟨h.form.below hb, blk_below h.res hb, blk_below h.box hb, h.low.trans (hb.mono h.low.size), h.xb, h.gb, h.b0g, h.wb0⟩
theorem RefBox.done' (h : RefBox w X g A c L b0 b T Z F k cs W) (hL : L.length ≤ 1000000) (hk : k ≤ 1000) {t e0 : Int} (hd : doneL F = (t, e0)) :
    Calls Tryz.prog 39 #[.pointer (some ⟨g, 0, none⟩)] W fun e w' => e = .returned (.tuple #[.int .i64 t, .int .i64 e0]) ∧ RefBox w X g A c L b0 b T Z F k cs w' ∧ Below W.heap.size W w' := by
  have h1 := ref_done W h.form hL (by omega)
  rw [hd] at h1
  refine h1.mono fun e w' hh => ?_
  obtain ⟨h2, q, rfl⟩ := hh
  exact ⟨h2, h.drewN q, pw_below_drewN (Below.refl _ _) q⟩
end
theorem ref_right_loop (l : List Int) (hl : l.length ≤ 64) : ∀ (n i : Nat) (s : Int), i + n = l.length → 0 ≤ s → s ≤ 1048576 * (i : Int) → spigotref03_Right.l0 (n + 1) l s (i : Int) = some (curveGo (decide (s > 0)) (l.drop i)) := by
  intro n
  induction n with
  | zero =>
    intro i s hi h0 h1
    rw [List.drop_eq_nil_of_le (by omega), spigotref03_Right.l0, if_neg (by omega)]; rfl
  | succ n ih =>
    intro i s hi h0 h1
    have hlt : i < l.length := by omega
    have hr : rd l (i : Int) = l[i] := by unfold rd; rw [Int.toNat_natCast, List.getD_eq_getElem?_getD, List.getElem?_eq_getElem hlt]; rfl
    have hw : wrap64 ((i : Int) + 1) = ((i + 1 : Nat) : Int) := by rw [w64 (by omega) (by omega)]; omega
    rw [List.drop_eq_getElem_cons hlt, spigotref03_Right.l0, if_pos (by omega), if_pos (by omega), hr, hw, curveGo]
    generalize l[i] = x at *
    by_cases c1 : x < 0
    · rw [if_pos c1, if_pos c1]
    rw [if_neg c1, if_neg c1]
    by_cases c2 : x > 1048576
    · rw [if_pos c2, if_pos c2]
    rw [if_neg c2, if_neg c2, w64 (x := s + x) (by omega) (by omega), ih (i + 1) (s + x) (by omega) (by omega) (by omega)]
    by_cases c3 : s > 0
    · rw [if_pos (decide_eq_true c3), decide_eq_true (show s + x > 0 by omega)]
    · rw [if_neg (by rw [decide_eq_false c3]; decide), show s + x = x by omega]
theorem ref_right_f (l : List Int) : spigotref03_Right.f 66 l = some (curveOk l) := by
  have hj : ∀ b : Bool, spigotref03_Right.j0 66 l b = if b = true then some false else spigotref03_Right.l0 65 l 0 0 := fun b => by
    first | rfl | (rw [spigotref03_Right.j0]; done) | (cases b <;> rw [spigotref03_Right.j0] <;> rfl)
  unfold spigotref03_Right.f curveOk
  by_cases c1 : (l.length : Int) < 1
  · rw [if_pos c1, hj, if_pos rfl, decide_eq_false (show ¬ 1 ≤ l.length by omega)]; rfl
  rw [if_neg c1, hj, decide_eq_true (show 1 ≤ l.length by omega)]
  by_cases c2 : (l.length : Int) > 64
  · rw [if_pos (decide_eq_true c2), decide_eq_false (show ¬ l.length ≤ 64 by omega)]; rfl
  rw [if_neg (by rw [decide_eq_false c2]; decide), decide_eq_true (show l.length ≤ 64 by omega)]
  have h := ref_right_loop l (by omega) l.length 0 0 (by omega) (by omega) (by omega)
  rw [List.drop_zero] at h
  obtain ⟨d, hd⟩ : ∃ d, 65 = (l.length + 1) + d := ⟨64 - l.length, by omega⟩
  have hm : spigotref03_Right.l0 65 l 0 0 = some (curveGo false l) := by
    rw [hd]
    clear hd
    induction d with
    | zero => exact h
    | succ d ihd =>
      rw [show l.length + 1 + (d + 1) = l.length + 1 + d + 1 by omega]
      exact (spigotref03_Right.mono_l _).2 l 0 0 _ ihd
  rw [hm]
  simp
theorem in12_f (x lo hi : Int) : spigotref12_in.f x lo hi = some (decide (lo ≤ x ∧ x ≤ hi)) := by
  unfold spigotref12_in.f
  by_cases c : x ≥ lo
  · rw [if_pos c]; congr 1; rw [decide_eq_decide]; omega
  · rw [if_neg c]; congr 1; symm; rw [decide_eq_false_iff_not]; omega
theorem ref_whole_f (a : AskV) : spigotref12_Whole.f 67 a.f0 a.f1 a.f2 a.f3 a.f4 a.f5 a.f6 a.f7 a.f8 a.f9 a.f10 a.f11 a.f12 a.f13 = some (wholeA a) := by
  have hj : ∀ b, spigotref12_Whole.j0 67 b a.f0 a.f1 a.f2 a.f3 a.f4 a.f5 a.f6 a.f7 a.f8 a.f9 a.f10 a.f11 a.f12 a.f13 = if b = true then some (5003, 282) else if a.f0 = 1 then (if a.f8 = 2 then (if curveOk a.f13 = true then some (0, 0) else some (5006, 30)) else some (0, 0)) else some (0, 0) := fun b => by
    rw [spigotref12_Whole.j0, ref_right_f]; rfl
  unfold spigotref12_Whole.f wholeA
  rw [in12_f]
  simp only [Option.bind_some, hj]
  by_cases c1 : a.f0 = 1
  · rw [if_pos c1, if_pos c1, if_pos c1]
    by_cases c2 : 1 ≤ wrap64 (a.f10 - a.f9) ∧ wrap64 (a.f10 - a.f9) ≤ 1073741824
    · rw [if_pos c2, if_neg (by rw [decide_eq_true c2]; decide)]
      by_cases c3 : a.f8 = 2
      · rw [if_pos c3, if_pos c3]
        by_cases c4 : curveOk a.f13 = true
        · rw [if_pos c4, if_pos c4]
        · rw [if_neg c4, if_neg c4]
      · rw [if_neg c3, if_neg c3]
    · rw [if_neg c2, if_pos (by rw [decide_eq_false c2]; rfl)]
  · rw [if_neg c1, if_neg c1, if_neg (by decide), if_neg c1]
set_option maxRecDepth 100000 in
set_option maxHeartbeats 8000000 in
theorem ref12_dec_none (s : ByteArray) (w : World) (hs : s.size ≤ 140737488351232) (e : Int) (hq : readB s = (none, e)) (he : e ≠ 0) :
    Calls Tryz.prog 13 #[.string s] w (AskIs (askD s) w) := by
  have HR := Aside0.mk (ref_read_walk s (w.alloc (.cells #[.int .i64 0, .string ⟨#[]⟩, .string ⟨#[]⟩, .string ⟨#[]⟩, .string ⟨#[]⟩, .int .i64 0, .int .i64 0, .int .i64 0, .int .i64 0, .int .i64 0, .int .i64 0, .int .i64 0, .int .i64 0, .slice none 0 0] 32)) hs)
  have HD := Aside0.mk (askD_none hq)
  rw [hq] at HR
  have t1 : (e != 0) = true := by rw [bne_iff_ne]; exact he
  have BK0 := Aside0.mk (blk_new w (.cells #[.int .i64 0, .string ⟨#[]⟩, .string ⟨#[]⟩, .string ⟨#[]⟩, .string ⟨#[]⟩, .int .i64 0, .int .i64 0, .int .i64 0, .int .i64 0, .int .i64 0, .int .i64 0, .int .i64 0, .int .i64 0, .slice none 0 0] 32))
  have HB0 : Aside0 (Below w.heap.size w (w.alloc (.cells #[.int .i64 0, .string ⟨#[]⟩, .string ⟨#[]⟩, .string ⟨#[]⟩, .string ⟨#[]⟩, .int .i64 0, .int .i64 0, .int .i64 0, .int .i64 0, .int .i64 0, .int .i64 0, .int .i64 0, .int .i64 0, .slice none 0 0] 32))) := ⟨(Below.refl _ _).alloc (Nat.le_refl _) _⟩
  clear hq he
  go_enter Tryz.func13, Tryz.ntmps13
  go_wp2_with (go_at_call 33; refine HR.out.mono ?_; rintro en w1 ⟨hb1, rfl⟩; have BK := Aside0.mk (blk_below BK0.out hb1); have HB := Aside0.mk (HB0.out.trans (hb1.mono HB0.out.size)); clear hb1; have hc := fun i => blk_cell BK.out i; have hf := fun i => blk_frozen BK.out i)
  refine bodyPost_ret (results_ctt rfl _ _ w.heap.size 32 #[.int .i64 0, .string ⟨#[]⟩, .string ⟨#[]⟩, .string ⟨#[]⟩, .string ⟨#[]⟩, .int .i64 0, .int .i64 0, .int .i64 0, .int .i64 0, .int .i64 0, .int .i64 0, .int .i64 0, .int .i64 0, .slice none 0 0] (0, 0) _ rfl (blk_fill14 BK.out _ _ _ _ _ _ _ _ _ _ _ _ _ _) Tryz.underlying32 rfl (by kernel_rfl)) rfl ?_
  exact AskIs.mk_ (a := zAsk) (ok := fun _ => True) HD.out (Kd.R_nil _ _ _ _ _) (low_fill14 HB.out _ _ _ _ _ _ _ _ _ _ _ _ _ _)
set_option maxRecDepth 100000 in
set_option maxHeartbeats 40000000 in
theorem ref12_dec_a (s : ByteArray) (w : World) (hs : s.size ≤ 140737488351232) (F : FormS) (x : Int) (hq : readB s = (some F, x)) (v : ByteArray) (hv : (F.vals 35).getD ⟨#[]⟩ = v) (hs1 : askKind v = 1) (hs2 : algOf (asksT askNew (F.mark 35)).1 = 2 ∨ algOf (asksT askNew (F.mark 35)).1 = 3) :
    Calls Tryz.prog 13 #[.string s] w (AskIs (askD s) w) := by
  obtain ⟨hx, hF, h1, h35, hv35⟩ := readB_some hq
  subst hx
  have he0 : F.e = 0 := by rw [hF]; rfl
  have h8 : (fieldsB s)[0].f1 = v := by rw [← hv, hv35]; rfl
  have HZ : Aside0 (∀ y ∈ fieldsB s, y.f1.size ≤ 512) := ⟨fun y hy => (fieldsB_good s y hy).2.2⟩
  have HR := Aside0.mk (ref_read_walk s (w.alloc (.cells #[.int .i64 0, .string ⟨#[]⟩, .string ⟨#[]⟩, .string ⟨#[]⟩, .string ⟨#[]⟩, .int .i64 0, .int .i64 0, .int .i64 0, .int .i64 0, .int .i64 0, .int .i64 0, .int .i64 0, .int .i64 0, .slice none 0 0] 32)) hs)
  have hL : (fieldsB s).length ≤ 1000000 := by have := fieldsB_len s; omega
  rw [hq] at HR
  have BK0 := Aside0.mk (blk_new w (.cells #[.int .i64 0, .string ⟨#[]⟩, .string ⟨#[]⟩, .string ⟨#[]⟩, .string ⟨#[]⟩, .int .i64 0, .int .i64 0, .int .i64 0, .int .i64 0, .int .i64 0, .int .i64 0, .int .i64 0, .int .i64 0, .slice none 0 0] 32))
  have HB0 : Aside0 (Below w.heap.size w (w.alloc (.cells #[.int .i64 0, .string ⟨#[]⟩, .string ⟨#[]⟩, .string ⟨#[]⟩, .string ⟨#[]⟩, .int .i64 0, .int .i64 0, .int .i64 0, .int .i64 0, .int .i64 0, .int .i64 0, .int .i64 0, .int .i64 0, .slice none 0 0] 32))) := ⟨(Below.refl _ _).alloc (Nat.le_refl _) _⟩
  have hws : (w.alloc (.cells #[.int .i64 0, .string ⟨#[]⟩, .string ⟨#[]⟩, .string ⟨#[]⟩, .string ⟨#[]⟩, .int .i64 0, .int .i64 0, .int .i64 0, .int .i64 0, .int .i64 0, .int .i64 0, .int .i64 0, .int .i64 0, .slice none 0 0] 32)).heap.size = w.heap.size + 1 := World.size_alloc _ _
  obtain ⟨kd, hkd⟩ : ∃ k, askKind v = k := ⟨_, rfl⟩
  have HK1 : Aside0 (kd = 1) := ⟨hkd.symm.trans hs1⟩
  have HAl := Aside0.mk hs2
  clear hs1 hs2
  have hk5 : kd ≤ 5 := hkd ▸ askKind_le v
  have HWd : Aside0 (∀ i : Nat, 1 ≤ i → i ≤ 5 → (askKindW (i : Int) = v ↔ kd = i)) := ⟨fun i h1 h5 => by
    have := askWord_kind v i h1 h5
    rwa [hkd] at this⟩
  have HD0 : Aside0 (kd = 0 → askD s = (zAsk, 35, 120)) := ⟨fun h => askD_zero hq hv (hkd.trans h)⟩
  have HDb : Aside0 (∀ a F' t e, kd ≠ 0 → takeA (kd : Nat) (F.mark 35) = (a, F') → doneL F' = (t, e) → e ≠ 0 → askD s = (zAsk, t, e)) := ⟨fun a F' t e h0 ha hd he => askD_undone hq hv hkd h0 ha hd he⟩
  have HDw : Aside0 (∀ a F' t e, kd ≠ 0 → takeA (kd : Nat) (F.mark 35) = (a, F') → (doneL F').2 = 0 → wholeA a = (t, e) → e ≠ 0 → askD s = (zAsk, t, e)) := ⟨fun a F' t e h0 ha hd hw he => askD_broken hq hv hkd h0 ha hd hw he⟩
  have HDg : Aside0 (∀ a F', kd ≠ 0 → takeA (kd : Nat) (F.mark 35) = (a, F') → (doneL F').2 = 0 → (wholeA a).2 = 0 → askD s = (a, 0, 0)) := ⟨fun a F' h0 ha hd hw => askD_good hq hv hkd h0 ha hd hw⟩
  have HKd := Aside0.mk hk5
  have HE0 := Aside0.mk he0
  clear hF hv35 h35 hq hkd hv he0
  generalize fieldsB s = L at *
  generalize askD s = res at *
  have HL := Aside0.mk hL
  have H8 := Aside0.mk h8
  clear hL h8
  go_enter Tryz.func13, Tryz.ntmps13
  go_wp2_with (first
    | (go_at_call 33; refine HR.out.mono ?_; rintro en w1 ⟨hb1, g, A, c, rfl, hf, hg⟩; rw [hws] at hg; have B0 := Aside0.mk (RefBox.start (w := w) (T := 32) (Z0 := #[.int .i64 0, .string ⟨#[]⟩, .string ⟨#[]⟩, .string ⟨#[]⟩, .string ⟨#[]⟩, .int .i64 0, .int .i64 0, .int .i64 0, .int .i64 0, .int .i64 0, .int .i64 0, .int .i64 0, .int .i64 0, .slice none 0 0]) hf (blk_below BK0.out hb1) (HB0.out.trans (hb1.mono HB0.out.size)) (by omega) (Nat.le_refl _)); clear hb1 hf hg HR BK0 HB0 hws)
    | (go_at_call 34; refine (B0.out.kind HL.out (by decide) h1 HE0.out H8.out).mono ?_; rintro en w2 ⟨rfl, hb⟩; have B1 := Aside0.mk hb; clear hb B0))
  go_loopw [9] (fun v9 wr => ∃ i : Nat, v9 = .int .i64 (i : Int) ∧ 1 ≤ i ∧ i ≤ 6 ∧ Aside0 (RefBox w (fun j => j < g ∨ j = w1.heap.size) g A c L w.heap.size w1.heap.size 32 #[.int .i64 0, .string ⟨#[]⟩, .string ⟨#[]⟩, .string ⟨#[]⟩, .string ⟨#[]⟩, .int .i64 0, .int .i64 0, .int .i64 0, .int .i64 0, .int .i64 0, .int .i64 0, .int .i64 0, .int .i64 0, .slice none 0 0] (F.mark 35) 1 #[.int .i64 (if kd < i then (kd : Int) else 0), .string ⟨#[]⟩, .string ⟨#[]⟩, .string ⟨#[]⟩, .string ⟨#[]⟩, .int .i64 0, .int .i64 0, .int .i64 0, .int .i64 0, .int .i64 0, .int .i64 0, .int .i64 0, .int .i64 0, .slice none 0 0] wr)) (fun v9 _ => 6 - (intOf v9).toNat)
  case atStart => exact ⟨1, rfl, Nat.le_refl _, by omega, ⟨by rw [show (if kd < 1 then (kd : Int) else 0) = 0 by split <;> omega]; exact B1.out⟩⟩
  case round =>
    clear B1
    obtain ⟨i, rfl, hi1, hi6, B⟩ := hrel
    by_cases hlt : i < 6
    · have hiff := HWd.out i hi1 (by omega)
      have k1 : decide ((i : Int) < 6) = true := by rw [decide_eq_true_eq]; omega
      have HWc : Aside0 (∀ W, Calls Tryz.prog 35 #[.int .i64 (i : Int)] W fun e w' => e = .returned (.string (askKindW (i : Int))) ∧ Below W.heap.size W w') := ⟨fun W => ref12_word_walk _ (by omega) W⟩
      generalize askKindW (i : Int) = r at *
      by_cases ce : kd = i
      · obtain rfl : r = v := hiff.2 ce
        have HN : Aside0 ((if kd < i + 1 then (kd : Int) else 0) = (i : Int)) := ⟨by rw [if_pos (by omega), ce]⟩
        clear hiff ce
        go_wp2_with (go_at_call 35; refine (HWc.out _).mono ?_; rintro en w3 ⟨rfl, hd⟩; have B2 := Aside0.mk (B.out.below_ hd); clear hd; have c0 : w3.cell? ⟨w1.heap.size, 0, none⟩ = some (.int .i64 (if kd < i then (kd : Int) else 0)) := blk_cell B2.out.box 0; have z0 := blk_frozen B2.out.box 0)
        refine ⟨⟨i + 1, by rw [show ((i + 1 : Nat) : Int) = (i : Int) + 1 by omega], by omega, by omega, ⟨by rw [HN.out]; exact B2.out.set 0 (.int .i64 (i : Int))⟩⟩, ?_⟩
        show 6 - ((i : Int) + 1).toNat < 6 - ((i : Int)).toNat
        omega
      · have hne : ¬ r = v := fun g => ce (hiff.1 g)
        have n1 : (r.toList == v.toList) = false := by
          rw [ByteArray.toList_eq, ByteArray.toList_eq, beq_eq_false_iff_ne]
          exact fun e => hne (ba_ext e)
        have HN : Aside0 ((if kd < i + 1 then (kd : Int) else 0) = (if kd < i then (kd : Int) else 0)) := ⟨by
          by_cases q : kd < i
          · rw [if_pos q, if_pos (by omega)]
          · rw [if_neg q, if_neg (by omega)]⟩
        clear hiff ce hne
        go_wp2_with (go_at_call 35; refine (HWc.out _).mono ?_; rintro en w3 ⟨rfl, hd⟩; have B2 := Aside0.mk (B.out.below_ hd); clear hd)
        refine ⟨⟨i + 1, by rw [show ((i + 1 : Nat) : Int) = (i : Int) + 1 by omega], by omega, by omega, ⟨by rw [HN.out]; exact B2.out⟩⟩, ?_⟩
        show 6 - ((i : Int) + 1).toNat < 6 - ((i : Int)).toNat
        omega
    · have k1 : decide ((i : Int) < 6) = false := by rw [decide_eq_false_iff_not]; omega
      have hi : i = 6 := by omega
      subst hi
      have B0 : Aside0 (RefBox w (fun j => j < g ∨ j = w1.heap.size) g A c L w.heap.size w1.heap.size 32 #[.int .i64 0, .string ⟨#[]⟩, .string ⟨#[]⟩, .string ⟨#[]⟩, .string ⟨#[]⟩, .int .i64 0, .int .i64 0, .int .i64 0, .int .i64 0, .int .i64 0, .int .i64 0, .int .i64 0, .int .i64 0, .slice none 0 0] (F.mark 35) 1 #[.int .i64 (kd : Int), .string ⟨#[]⟩, .string ⟨#[]⟩, .string ⟨#[]⟩, .string ⟨#[]⟩, .int .i64 0, .int .i64 0, .int .i64 0, .int .i64 0, .int .i64 0, .int .i64 0, .int .i64 0, .int .i64 0, .slice none 0 0] wr) := ⟨by have := B.out; rwa [if_pos (by have := HKd.out; omega)] at this⟩
      clear B H8
      have t0 : ((kd : Int) == 0) = false := by rw [beq_eq_false_iff_ne]; have := HK1.out; omega
      have hbx0 : wr.heap[w1.heap.size]? = some (.cells #[.int .i64 (kd : Int), .string ⟨#[]⟩, .string ⟨#[]⟩, .string ⟨#[]⟩, .string ⟨#[]⟩, .int .i64 0, .int .i64 0, .int .i64 0, .int .i64 0, .int .i64 0, .int .i64 0, .int .i64 0, .int .i64 0, .slice none 0 0] 32 (0, 0)) := B0.out.box
      obtain rfl := HK1.out
      obtain ⟨v1, F1, E1⟩ : ∃ v F', askL takeName ⟨#[]⟩ (F.mark 35) 11 = (v, F') := ⟨_, _, rfl⟩
      obtain ⟨v2, F2, E2⟩ : ∃ v F', askL takeName ⟨#[]⟩ F1 1 = (v, F') := ⟨_, _, rfl⟩
      obtain ⟨v3, F3, E3⟩ : ∃ v F', askL takeName ⟨#[]⟩ F2 55 = (v, F') := ⟨_, _, rfl⟩
      obtain ⟨v4, F4, E4⟩ : ∃ v F', askL (fun s => takeInt s 1 2) 0 F3 54 = (v, F') := ⟨_, _, rfl⟩
      obtain ⟨v5, F5, E5⟩ : ∃ v F', askL (fun s => takeInt s 1 1099511627776) 0 F4 38 = (v, F') := ⟨_, _, rfl⟩
      obtain ⟨v6, F6, E6⟩ : ∃ v F', askL (fun s => takeInt s 1 1099511627776) 0 F5 44 = (v, F') := ⟨_, _, rfl⟩
      obtain ⟨v7, F7, E7⟩ : ∃ v F', askL (fun s => takeInt s 1 4) 0 F6 5001 = (v, F') := ⟨_, _, rfl⟩
      obtain ⟨v8, F8, E8⟩ : ∃ v F', askL (fun s => takeInt s 0 1099511627776) 0 F7 5002 = (v, F') := ⟨_, _, rfl⟩
      obtain ⟨v9, F9, E9⟩ : ∃ v F', askL (fun s => takeInt s 0 1099511627776) 0 F8 5003 = (v, F') := ⟨_, _, rfl⟩
      have ha0 : asksT askNew (F.mark 35) = ([.s v1, .s v2, .s v3, .n v4, .n v5, .n v6, .n v7, .n v8, .n v9], F9) := by
        rw [show askNew = [.name 11, .name 1, .name 55, .int 54 1 2, .int 38 1 1099511627776, .int 44 1 1099511627776, .int 5001 1 4, .int 5002 0 1099511627776, .int 5003 0 1099511627776] from rfl, asksT_name E1, asksT_name E2, asksT_name E3, asksT_int E4, asksT_int E5, asksT_int E6, asksT_int E7, asksT_int E8, asksT_int E9]; rfl
      have hAl := HAl.out
      rw [ha0] at hAl
      replace hAl : v7 = 2 ∨ v7 = 3 := hAl
      have hal' : v7 = 2 ∨ v7 = 3 := hAl
      clear hAl
      rcases hal' with a2 | a3
      · have hsc : algSch v7 = [.ints 5006 (fun s => takeInts s 64 0 1048576)] := by rw [a2]; rfl
        obtain ⟨v10, F10, E10⟩ : ∃ v F', askL (fun s => takeInts s 64 0 1048576) [] F9 5006 = (v, F') := ⟨_, _, rfl⟩
        have hb2 : asksT (algSch v7) F9 = ([.l v10], F10) := by rw [hsc, asksT_ints E10]; rfl
        have ha : takeA ((1 : Nat) : Int) (F.mark 35) = (⟨1, v1, ⟨#[]⟩, v2, v3, v4, v5, v6, v7, v8, v9, 0, 0, v10⟩, F10) := by
          show takeA 1 (F.mark 35) = _
          unfold takeA
          rw [if_pos rfl, ha0, show algOf [.s v1, .s v2, .s v3, .n v4, .n v5, .n v6, .n v7, .n v8, .n v9] = v7 from rfl, hb2]
          have n3 : ¬ v7 = 3 := (by omega); have n4 : ¬ v7 = 4 := (by omega)
          simp [askNewOf, ValT.num, ValT.str, ValT.nums, n3, n4, a2]
        have g2 : (v7 == 2) = true := beq_iff_eq.2 a2
        have g3 : (v7 == 3) = false := beq_eq_false_iff_ne.2 (by omega)
        have g4 : (v7 == 4) = false := beq_eq_false_iff_ne.2 (by omega)
        have HK0 := Aside0.mk (show (1 : Nat) ≠ 0 by decide)
        clear ha0 hsc hb2 k1 a2
        obtain ⟨td, xd, ED⟩ : ∃ t x, doneL F10 = (t, x) := ⟨_, _, rfl⟩
        obtain ⟨tw, xw, EW⟩ : ∃ t x, wholeA ⟨1, v1, ⟨#[]⟩, v2, v3, v4, v5, v6, v7, v8, v9, 0, 0, v10⟩ = (t, x) := ⟨_, _, rfl⟩
        have HED := Aside0.mk ED
        have HWf : Aside0 (∀ W A' c', Kd.C (Kd.int .i64) W A' v10.length v10 → v10.length ≤ c' → Calls Tryz.prog 27 #[.agg #[.int .i64 1, .string v1, .string ⟨#[]⟩, .string v2, .string v3, .int .i64 v4, .int .i64 v5, .int .i64 v6, .int .i64 v7, .int .i64 v8, .int .i64 v9, .int .i64 0, .int .i64 0, .slice A' v10.length c']] W fun e w' => e = .returned (.tuple #[.int .i64 tw, .int .i64 xw]) ∧ Below W.heap.size W w') := ⟨fun W A' c' q1 q2 => spigotref12_Whole.calls 67 _ _ _ _ _ _ _ _ _ _ _ _ _ A' c' v10 tw xw W q1 q2 (by rw [← EW]; exact ref_whole_f ⟨1, v1, ⟨#[]⟩, v2, v3, v4, v5, v6, v7, v8, v9, 0, 0, v10⟩)⟩
        have B0 : Aside0 (RefBox w (fun j => j < g ∨ j = w1.heap.size) g A c L w.heap.size w1.heap.size 32 #[.int .i64 0, .string ⟨#[]⟩, .string ⟨#[]⟩, .string ⟨#[]⟩, .string ⟨#[]⟩, .int .i64 0, .int .i64 0, .int .i64 0, .int .i64 0, .int .i64 0, .int .i64 0, .int .i64 0, .int .i64 0, .slice none 0 0] (F.mark 35) 1 #[.int .i64 1, .string ⟨#[]⟩, .string ⟨#[]⟩, .string ⟨#[]⟩, .string ⟨#[]⟩, .int .i64 0, .int .i64 0, .int .i64 0, .int .i64 0, .int .i64 0, .int .i64 0, .int .i64 0, .int .i64 0, .slice none 0 0] wr) := ⟨B0.out⟩
        have HE1 := Aside0.mk E1
        have HE2 := Aside0.mk E2
        have HE3 := Aside0.mk E3
        have HE4 := Aside0.mk E4
        have HE5 := Aside0.mk E5
        have HE6 := Aside0.mk E6
        have HE7 := Aside0.mk E7
        have HE8 := Aside0.mk E8
        have HE9 := Aside0.mk E9
        have HE10 := Aside0.mk E10
        have hbx : wr.heap[w1.heap.size]? = some (.cells #[.int .i64 1, .string ⟨#[]⟩, .string ⟨#[]⟩, .string ⟨#[]⟩, .string ⟨#[]⟩, .int .i64 0, .int .i64 0, .int .i64 0, .int .i64 0, .int .i64 0, .int .i64 0, .int .i64 0, .int .i64 0, .slice none 0 0] 32 (0, 0)) := B0.out.box
        have hc := fun i => blk_cell hbx i
        have hzz := fun i => blk_frozen hbx i
        have Ha := Aside0.mk ha
        have HEW := Aside0.mk EW
        clear ha EW ED hbx hbx0 E1 E2 E3 E4 E5 E6 E7 E8 E9 E10 HD0 HWd
        go_wp2_with (first
          | (go_at_call 36; ((with_reducible refine (B0.out.name HE1.out HL.out (by omega) HZ.out).mono ?_)); rintro en w21 ⟨rfl, hb⟩; (try clear hc hzz); have hbx : w21.heap[w1.heap.size]? = some (.cells #[.int .i64 1, .string ⟨#[]⟩, .string ⟨#[]⟩, .string ⟨#[]⟩, .string ⟨#[]⟩, .int .i64 0, .int .i64 0, .int .i64 0, .int .i64 0, .int .i64 0, .int .i64 0, .int .i64 0, .int .i64 0, .slice none 0 0] 32 (0, 0)) := hb.box; have hc := fun i => blk_cell hbx i; have hzz := fun i => blk_frozen hbx i; have B1 : Aside0 (RefBox w _ g A c L w.heap.size w1.heap.size 32 #[.int .i64 0, .string ⟨#[]⟩, .string ⟨#[]⟩, .string ⟨#[]⟩, .string ⟨#[]⟩, .int .i64 0, .int .i64 0, .int .i64 0, .int .i64 0, .int .i64 0, .int .i64 0, .int .i64 0, .int .i64 0, .slice none 0 0] F1 _ #[.int .i64 1, .string v1, .string ⟨#[]⟩, .string ⟨#[]⟩, .string ⟨#[]⟩, .int .i64 0, .int .i64 0, .int .i64 0, .int .i64 0, .int .i64 0, .int .i64 0, .int .i64 0, .int .i64 0, .slice none 0 0] _) := ⟨hb.set 1 (.string v1)⟩; clear hbx hb B0)
          | (go_at_call 36; ((with_reducible refine (B1.out.name HE2.out HL.out (by omega) HZ.out).mono ?_)); rintro en w22 ⟨rfl, hb⟩; (try clear hc hzz); have hbx : w22.heap[w1.heap.size]? = some (.cells #[.int .i64 1, .string v1, .string ⟨#[]⟩, .string ⟨#[]⟩, .string ⟨#[]⟩, .int .i64 0, .int .i64 0, .int .i64 0, .int .i64 0, .int .i64 0, .int .i64 0, .int .i64 0, .int .i64 0, .slice none 0 0] 32 (0, 0)) := hb.box; have hc := fun i => blk_cell hbx i; have hzz := fun i => blk_frozen hbx i; have B2 : Aside0 (RefBox w _ g A c L w.heap.size w1.heap.size 32 #[.int .i64 0, .string ⟨#[]⟩, .string ⟨#[]⟩, .string ⟨#[]⟩, .string ⟨#[]⟩, .int .i64 0, .int .i64 0, .int .i64 0, .int .i64 0, .int .i64 0, .int .i64 0, .int .i64 0, .int .i64 0, .slice none 0 0] F2 _ #[.int .i64 1, .string v1, .string ⟨#[]⟩, .string v2, .string ⟨#[]⟩, .int .i64 0, .int .i64 0, .int .i64 0, .int .i64 0, .int .i64 0, .int .i64 0, .int .i64 0, .int .i64 0, .slice none 0 0] _) := ⟨hb.set 3 (.string v2)⟩; clear hbx hb B1)
          | (go_at_call 36; ((with_reducible refine (B2.out.name HE3.out HL.out (by omega) HZ.out).mono ?_)); rintro en w23 ⟨rfl, hb⟩; (try clear hc hzz); have hbx : w23.heap[w1.heap.size]? = some (.cells #[.int .i64 1, .string v1, .string ⟨#[]⟩, .string v2, .string ⟨#[]⟩, .int .i64 0, .int .i64 0, .int .i64 0, .int .i64 0, .int .i64 0, .int .i64 0, .int .i64 0, .int .i64 0, .slice none 0 0] 32 (0, 0)) := hb.box; have hc := fun i => blk_cell hbx i; have hzz := fun i => blk_frozen hbx i; have B3 : Aside0 (RefBox w _ g A c L w.heap.size w1.heap.size 32 #[.int .i64 0, .string ⟨#[]⟩, .string ⟨#[]⟩, .string ⟨#[]⟩, .string ⟨#[]⟩, .int .i64 0, .int .i64 0, .int .i64 0, .int .i64 0, .int .i64 0, .int .i64 0, .int .i64 0, .int .i64 0, .slice none 0 0] F3 _ #[.int .i64 1, .string v1, .string ⟨#[]⟩, .string v2, .string v3, .int .i64 0, .int .i64 0, .int .i64 0, .int .i64 0, .int .i64 0, .int .i64 0, .int .i64 0, .int .i64 0, .slice none 0 0] _) := ⟨hb.set 4 (.string v3)⟩; clear hbx hb B2)
          | (go_at_call 37; ((with_reducible refine (B3.out.int HE4.out HL.out (by omega) HZ.out).mono ?_)); rintro en w24 ⟨rfl, hb⟩; (try clear hc hzz); have hbx : w24.heap[w1.heap.size]? = some (.cells #[.int .i64 1, .string v1, .string ⟨#[]⟩, .string v2, .string v3, .int .i64 0, .int .i64 0, .int .i64 0, .int .i64 0, .int .i64 0, .int .i64 0, .int .i64 0, .int .i64 0, .slice none 0 0] 32 (0, 0)) := hb.box; have hc := fun i => blk_cell hbx i; have hzz := fun i => blk_frozen hbx i; have B4 : Aside0 (RefBox w _ g A c L w.heap.size w1.heap.size 32 #[.int .i64 0, .string ⟨#[]⟩, .string ⟨#[]⟩, .string ⟨#[]⟩, .string ⟨#[]⟩, .int .i64 0, .int .i64 0, .int .i64 0, .int .i64 0, .int .i64 0, .int .i64 0, .int .i64 0, .int .i64 0, .slice none 0 0] F4 _ #[.int .i64 1, .string v1, .string ⟨#[]⟩, .string v2, .string v3, .int .i64 v4, .int .i64 0, .int .i64 0, .int .i64 0, .int .i64 0, .int .i64 0, .int .i64 0, .int .i64 0, .slice none 0 0] _) := ⟨hb.set 5 (.int .i64 v4)⟩; clear hbx hb B3)
          | (go_at_call 37; ((with_reducible refine (B4.out.int HE5.out HL.out (by omega) HZ.out).mono ?_)); rintro en w25 ⟨rfl, hb⟩; (try clear hc hzz); have hbx : w25.heap[w1.heap.size]? = some (.cells #[.int .i64 1, .string v1, .string ⟨#[]⟩, .string v2, .string v3, .int .i64 v4, .int .i64 0, .int .i64 0, .int .i64 0, .int .i64 0, .int .i64 0, .int .i64 0, .int .i64 0, .slice none 0 0] 32 (0, 0)) := hb.box; have hc := fun i => blk_cell hbx i; have hzz := fun i => blk_frozen hbx i; have B5 : Aside0 (RefBox w _ g A c L w.heap.size w1.heap.size 32 #[.int .i64 0, .string ⟨#[]⟩, .string ⟨#[]⟩, .string ⟨#[]⟩, .string ⟨#[]⟩, .int .i64 0, .int .i64 0, .int .i64 0, .int .i64 0, .int .i64 0, .int .i64 0, .int .i64 0, .int .i64 0, .slice none 0 0] F5 _ #[.int .i64 1, .string v1, .string ⟨#[]⟩, .string v2, .string v3, .int .i64 v4, .int .i64 v5, .int .i64 0, .int .i64 0, .int .i64 0, .int .i64 0, .int .i64 0, .int .i64 0, .slice none 0 0] _) := ⟨hb.set 6 (.int .i64 v5)⟩; clear hbx hb B4)
          | (go_at_call 37; ((with_reducible refine (B5.out.int HE6.out HL.out (by omega) HZ.out).mono ?_)); rintro en w26 ⟨rfl, hb⟩; (try clear hc hzz); have hbx : w26.heap[w1.heap.size]? = some (.cells #[.int .i64 1, .string v1, .string ⟨#[]⟩, .string v2, .string v3, .int .i64 v4, .int .i64 v5, .int .i64 0, .int .i64 0, .int .i64 0, .int .i64 0, .int .i64 0, .int .i64 0, .slice none 0 0] 32 (0, 0)) := hb.box; have hc := fun i => blk_cell hbx i; have hzz := fun i => blk_frozen hbx i; have B6 : Aside0 (RefBox w _ g A c L w.heap.size w1.heap.size 32 #[.int .i64 0, .string ⟨#[]⟩, .string ⟨#[]⟩, .string ⟨#[]⟩, .string ⟨#[]⟩, .int .i64 0, .int .i64 0, .int .i64 0, .int .i64 0, .int .i64 0, .int .i64 0, .int .i64 0, .int .i64 0, .slice none 0 0] F6 _ #[.int .i64 1, .string v1, .string ⟨#[]⟩, .string v2, .string v3, .int .i64 v4, .int .i64 v5, .int .i64 v6, .int .i64 0, .int .i64 0, .int .i64 0, .int .i64 0, .int .i64 0, .slice none 0 0] _) := ⟨hb.set 7 (.int .i64 v6)⟩; clear hbx hb B5)
          | (go_at_call 37; ((with_reducible refine (B6.out.int HE7.out HL.out (by omega) HZ.out).mono ?_)); rintro en w27 ⟨rfl, hb⟩; (try clear hc hzz); have hbx : w27.heap[w1.heap.size]? = some (.cells #[.int .i64 1, .string v1, .string ⟨#[]⟩, .string v2, .string v3, .int .i64 v4, .int .i64 v5, .int .i64 v6, .int .i64 0, .int .i64 0, .int .i64 0, .int .i64 0, .int .i64 0, .slice none 0 0] 32 (0, 0)) := hb.box; have hc := fun i => blk_cell hbx i; have hzz := fun i => blk_frozen hbx i; have B7 : Aside0 (RefBox w _ g A c L w.heap.size w1.heap.size 32 #[.int .i64 0, .string ⟨#[]⟩, .string ⟨#[]⟩, .string ⟨#[]⟩, .string ⟨#[]⟩, .int .i64 0, .int .i64 0, .int .i64 0, .int .i64 0, .int .i64 0, .int .i64 0, .int .i64 0, .int .i64 0, .slice none 0 0] F7 _ #[.int .i64 1, .string v1, .string ⟨#[]⟩, .string v2, .string v3, .int .i64 v4, .int .i64 v5, .int .i64 v6, .int .i64 v7, .int .i64 0, .int .i64 0, .int .i64 0, .int .i64 0, .slice none 0 0] _) := ⟨hb.set 8 (.int .i64 v7)⟩; clear hbx hb B6)
          | (go_at_call 37; ((with_reducible refine (B7.out.int HE8.out HL.out (by omega) HZ.out).mono ?_)); rintro en w28 ⟨rfl, hb⟩; (try clear hc hzz); have hbx : w28.heap[w1.heap.size]? = some (.cells #[.int .i64 1, .string v1, .string ⟨#[]⟩, .string v2, .string v3, .int .i64 v4, .int .i64 v5, .int .i64 v6, .int .i64 v7, .int .i64 0, .int .i64 0, .int .i64 0, .int .i64 0, .slice none 0 0] 32 (0, 0)) := hb.box; have hc := fun i => blk_cell hbx i; have hzz := fun i => blk_frozen hbx i; have B8 : Aside0 (RefBox w _ g A c L w.heap.size w1.heap.size 32 #[.int .i64 0, .string ⟨#[]⟩, .string ⟨#[]⟩, .string ⟨#[]⟩, .string ⟨#[]⟩, .int .i64 0, .int .i64 0, .int .i64 0, .int .i64 0, .int .i64 0, .int .i64 0, .int .i64 0, .int .i64 0, .slice none 0 0] F8 _ #[.int .i64 1, .string v1, .string ⟨#[]⟩, .string v2, .string v3, .int .i64 v4, .int .i64 v5, .int .i64 v6, .int .i64 v7, .int .i64 v8, .int .i64 0, .int .i64 0, .int .i64 0, .slice none 0 0] _) := ⟨hb.set 9 (.int .i64 v8)⟩; clear hbx hb B7)
          | (go_at_call 37; ((with_reducible refine (B8.out.int HE9.out HL.out (by omega) HZ.out).mono ?_)); rintro en w29 ⟨rfl, hb⟩; (try clear hc hzz); have hbx : w29.heap[w1.heap.size]? = some (.cells #[.int .i64 1, .string v1, .string ⟨#[]⟩, .string v2, .string v3, .int .i64 v4, .int .i64 v5, .int .i64 v6, .int .i64 v7, .int .i64 v8, .int .i64 0, .int .i64 0, .int .i64 0, .slice none 0 0] 32 (0, 0)) := hb.box; have hc := fun i => blk_cell hbx i; have hzz := fun i => blk_frozen hbx i; have B9 : Aside0 (RefBox w _ g A c L w.heap.size w1.heap.size 32 #[.int .i64 0, .string ⟨#[]⟩, .string ⟨#[]⟩, .string ⟨#[]⟩, .string ⟨#[]⟩, .int .i64 0, .int .i64 0, .int .i64 0, .int .i64 0, .int .i64 0, .int .i64 0, .int .i64 0, .int .i64 0, .slice none 0 0] F9 _ #[.int .i64 1, .string v1, .string ⟨#[]⟩, .string v2, .string v3, .int .i64 v4, .int .i64 v5, .int .i64 v6, .int .i64 v7, .int .i64 v8, .int .i64 v9, .int .i64 0, .int .i64 0, .slice none 0 0] _) := ⟨hb.set 10 (.int .i64 v9)⟩; clear hbx hb B8)
          | (go_at_call 38; ((with_reducible refine (RefBox.ints B9.out HE10.out HL.out (by omega) HZ.out).mono ?_)); rintro en w30 ⟨A', c', rfl, hR, hb⟩; have HR0 := Aside0.mk (Kd.R_far (p := ⟨w1.heap.size, 13, none⟩) (Kd.R_mono (Kd.R_bound hR) (ok' := fun j => j ≠ w1.heap.size ∧ j ≠ w.heap.size) (fun j hj => by have h1 := hj.2.1; have h2 := blk_lt B9.out.box; have h3 := blk_lt B9.out.res; omega)) (fun j hj => hj.1) (.slice A' v10.length c')); have HRw := Aside0.mk (B9.out.low.size); (try clear hc hzz); have hbx : w30.heap[w1.heap.size]? = some (.cells #[.int .i64 1, .string v1, .string ⟨#[]⟩, .string v2, .string v3, .int .i64 v4, .int .i64 v5, .int .i64 v6, .int .i64 v7, .int .i64 v8, .int .i64 v9, .int .i64 0, .int .i64 0, .slice none 0 0] 32 (0, 0)) := hb.box; have hc := fun i => blk_cell hbx i; have hzz := fun i => blk_frozen hbx i; have B10 : Aside0 (RefBox w _ g A c L w.heap.size w1.heap.size 32 #[.int .i64 0, .string ⟨#[]⟩, .string ⟨#[]⟩, .string ⟨#[]⟩, .string ⟨#[]⟩, .int .i64 0, .int .i64 0, .int .i64 0, .int .i64 0, .int .i64 0, .int .i64 0, .int .i64 0, .int .i64 0, .slice none 0 0] F10 _ #[.int .i64 1, .string v1, .string ⟨#[]⟩, .string v2, .string v3, .int .i64 v4, .int .i64 v5, .int .i64 v6, .int .i64 v7, .int .i64 v8, .int .i64 v9, .int .i64 0, .int .i64 0, .slice A' v10.length c'] _) := ⟨hb.set 13 (.slice A' v10.length c')⟩; clear hbx hb hR B9))
        by_cases hxd : xd = 0
        · subst hxd
          by_cases hxw : xw = 0
          · subst hxw
            have HD : Aside0 (res = (⟨1, v1, ⟨#[]⟩, v2, v3, v4, v5, v6, v7, v8, v9, 0, 0, v10⟩, 0, 0)) := ⟨HDg.out _ F10 HK0.out Ha.out (by rw [HED.out]) (by rw [HEW.out])⟩
            go_wp2_with (first
              | (go_at_call 39; ((with_reducible refine (B10.out.done' HL.out (by omega) HED.out).mono ?_)); rintro en w40 ⟨rfl, hb, hl⟩; clear hc hzz; have hbx : w40.heap[w1.heap.size]? = some (.cells #[.int .i64 1, .string v1, .string ⟨#[]⟩, .string v2, .string v3, .int .i64 v4, .int .i64 v5, .int .i64 v6, .int .i64 v7, .int .i64 v8, .int .i64 v9, .int .i64 0, .int .i64 0, .slice A' v10.length c'] 32 (0, 0)) := hb.box; have hc := fun i => blk_cell hbx i; have hrx := hb.res; have hrc := fun i => blk_cell hrx i; have hrz := fun i => blk_frozen hrx i; have BQ := Aside0.mk hb.res; have HLq := Aside0.mk hb.low; have BXq := Aside0.mk hb.box; have HRq := Aside0.mk (Kd.R_below HR0.out hl); clear hb hbx hrx hl)
              | (go_at_call 27; ((with_reducible refine (HWf.out _ A' c' (Kd.R_reads' HRq.out).2.2 (Kd.R_reads' HRq.out).2.1).mono ?_)); rintro en w41 ⟨rfl, hb⟩; clear hc hrc hrz; have BK := Aside0.mk (blk_below BQ.out hb); have hrc := fun i => blk_cell BK.out i; have hrz := fun i => blk_frozen BK.out i; have BY := Aside0.mk (blk_below BXq.out hb); have hbx : w41.heap[w1.heap.size]? = some (.cells #[.int .i64 1, .string v1, .string ⟨#[]⟩, .string v2, .string v3, .int .i64 v4, .int .i64 v5, .int .i64 v6, .int .i64 v7, .int .i64 v8, .int .i64 v9, .int .i64 0, .int .i64 0, .slice A' v10.length c'] 32 (0, 0)) := BY.out; have hc := fun i => blk_cell hbx i; have HLow := Aside0.mk (HLq.out.trans (hb.mono HLq.out.size)); have HRz := Aside0.mk (Kd.R_below HRq.out hb); clear hb hbx))
            refine bodyPost_ret (results_ctt rfl _ _ w.heap.size 32 #[.int .i64 1, .string v1, .string ⟨#[]⟩, .string v2, .string v3, .int .i64 v4, .int .i64 v5, .int .i64 v6, .int .i64 v7, .int .i64 v8, .int .i64 v9, .int .i64 0, .int .i64 0, .slice A' v10.length c'] (0, 0) _ rfl (blk_fill14 BK.out _ _ _ _ _ _ _ _ _ _ _ _ _ _) Tryz.underlying32 rfl (by kernel_rfl)) rfl ?_
            exact AskIs.mk_ (a := ⟨1, v1, ⟨#[]⟩, v2, v3, v4, v5, v6, v7, v8, v9, 0, 0, v10⟩) HD.out (R_fill14 (Kd.R_mono (Kd.R_lower HRz.out HRw.out) (fun _ hj => hj.2)) _ _ _ _ _ _ _ _ _ _ _ _ _ _) (low_fill14 HLow.out _ _ _ _ _ _ _ _ _ _ _ _ _ _)
          · have HD : Aside0 (res = (zAsk, tw, xw)) := ⟨HDw.out _ F10 tw xw HK0.out Ha.out (by rw [HED.out]) HEW.out hxw⟩
            have t2 : (xw != 0) = true := by rw [bne_iff_ne]; exact hxw
            clear hxw
            go_wp2_with (first
              | (go_at_call 39; ((with_reducible refine (B10.out.done' HL.out (by omega) HED.out).mono ?_)); rintro en w40 ⟨rfl, hb, hl⟩; clear hc hzz; have hbx : w40.heap[w1.heap.size]? = some (.cells #[.int .i64 1, .string v1, .string ⟨#[]⟩, .string v2, .string v3, .int .i64 v4, .int .i64 v5, .int .i64 v6, .int .i64 v7, .int .i64 v8, .int .i64 v9, .int .i64 0, .int .i64 0, .slice A' v10.length c'] 32 (0, 0)) := hb.box; have hc := fun i => blk_cell hbx i; have hrx := hb.res; have hrc := fun i => blk_cell hrx i; have hrz := fun i => blk_frozen hrx i; have BQ := Aside0.mk hb.res; have HLq := Aside0.mk hb.low; have BXq := Aside0.mk hb.box; have HRq := Aside0.mk (Kd.R_below HR0.out hl); clear hb hbx hrx hl)
              | (go_at_call 27; ((with_reducible refine (HWf.out _ A' c' (Kd.R_reads' HRq.out).2.2 (Kd.R_reads' HRq.out).2.1).mono ?_)); rintro en w41 ⟨rfl, hb⟩; clear hc hrc hrz; have BK := Aside0.mk (blk_below BQ.out hb); have hrc := fun i => blk_cell BK.out i; have hrz := fun i => blk_frozen BK.out i; have BY := Aside0.mk (blk_below BXq.out hb); have hbx : w41.heap[w1.heap.size]? = some (.cells #[.int .i64 1, .string v1, .string ⟨#[]⟩, .string v2, .string v3, .int .i64 v4, .int .i64 v5, .int .i64 v6, .int .i64 v7, .int .i64 v8, .int .i64 v9, .int .i64 0, .int .i64 0, .slice A' v10.length c'] 32 (0, 0)) := BY.out; have hc := fun i => blk_cell hbx i; have HLow := Aside0.mk (HLq.out.trans (hb.mono HLq.out.size)); have HRz := Aside0.mk (Kd.R_below HRq.out hb); clear hb hbx))
            refine bodyPost_ret (results_ctt rfl _ _ w.heap.size 32 #[.int .i64 0, .string ⟨#[]⟩, .string ⟨#[]⟩, .string ⟨#[]⟩, .string ⟨#[]⟩, .int .i64 0, .int .i64 0, .int .i64 0, .int .i64 0, .int .i64 0, .int .i64 0, .int .i64 0, .int .i64 0, .slice none 0 0] (0, 0) _ rfl (blk_fill14 BK.out _ _ _ _ _ _ _ _ _ _ _ _ _ _) Tryz.underlying32 rfl (by kernel_rfl)) rfl ?_
            exact AskIs.mk_ (a := zAsk) (ok := fun _ => True) HD.out (Kd.R_nil _ _ _ _ _) (low_fill14 HLow.out _ _ _ _ _ _ _ _ _ _ _ _ _ _)
        · have HD : Aside0 (res = (zAsk, td, xd)) := ⟨HDb.out _ F10 td xd HK0.out Ha.out HED.out hxd⟩
          have t2 : (xd != 0) = true := by rw [bne_iff_ne]; exact hxd
          have t3 : (xd == 0) = false := by rw [beq_eq_false_iff_ne]; exact hxd
          clear hxd
          go_wp2_with (go_at_call 39; ((with_reducible refine (B10.out.done' HL.out (by omega) HED.out).mono ?_)); rintro en w40 ⟨rfl, hb, hl⟩; clear hc hzz; have hbx : w40.heap[w1.heap.size]? = some (.cells #[.int .i64 1, .string v1, .string ⟨#[]⟩, .string v2, .string v3, .int .i64 v4, .int .i64 v5, .int .i64 v6, .int .i64 v7, .int .i64 v8, .int .i64 v9, .int .i64 0, .int .i64 0, .slice A' v10.length c'] 32 (0, 0)) := hb.box; have hc := fun i => blk_cell hbx i; have hrx := hb.res; have hrc := fun i => blk_cell hrx i; have hrz := fun i => blk_frozen hrx i; have BQ := Aside0.mk hb.res; have HLq := Aside0.mk hb.low; have BXq := Aside0.mk hb.box; have HRq := Aside0.mk (Kd.R_below HR0.out hl); clear hb hbx hrx hl)
          refine bodyPost_ret (results_ctt rfl _ _ w.heap.size 32 #[.int .i64 0, .string ⟨#[]⟩, .string ⟨#[]⟩, .string ⟨#[]⟩, .string ⟨#[]⟩, .int .i64 0, .int .i64 0, .int .i64 0, .int .i64 0, .int .i64 0, .int .i64 0, .int .i64 0, .int .i64 0, .slice none 0 0] (0, 0) _ rfl (blk_fill14 BQ.out _ _ _ _ _ _ _ _ _ _ _ _ _ _) Tryz.underlying32 rfl (by kernel_rfl)) rfl ?_
          exact AskIs.mk_ (a := zAsk) (ok := fun _ => True) HD.out (Kd.R_nil _ _ _ _ _) (low_fill14 HLq.out _ _ _ _ _ _ _ _ _ _ _ _ _ _)
      · have hsc : algSch v7 = [.int 5004 1 10000] := by rw [a3]; rfl
        obtain ⟨v10, F10, E10⟩ : ∃ v F', askL (fun s => takeInt s 1 10000) 0 F9 5004 = (v, F') := ⟨_, _, rfl⟩
        have hb2 : asksT (algSch v7) F9 = ([.n v10], F10) := by rw [hsc, asksT_int E10]; rfl
        have ha : takeA ((1 : Nat) : Int) (F.mark 35) = (⟨1, v1, ⟨#[]⟩, v2, v3, v4, v5, v6, v7, v8, v9, v10, 0, []⟩, F10) := by
          show takeA 1 (F.mark 35) = _
          unfold takeA
          rw [if_pos rfl, ha0, show algOf [.s v1, .s v2, .s v3, .n v4, .n v5, .n v6, .n v7, .n v8, .n v9] = v7 from rfl, hb2]
          have n2 : ¬ v7 = 2 := (by omega); have n4 : ¬ v7 = 4 := (by omega)
          simp [askNewOf, ValT.num, ValT.str, ValT.nums, n2, n4, a3]
        have g2 : (v7 == 2) = false := beq_eq_false_iff_ne.2 (by omega)
        have g3 : (v7 == 3) = true := beq_iff_eq.2 a3
        have g4 : (v7 == 4) = false := beq_eq_false_iff_ne.2 (by omega)
        have HK0 := Aside0.mk (show (1 : Nat) ≠ 0 by decide)
        clear ha0 hsc hb2 k1 a3
        obtain ⟨td, xd, ED⟩ : ∃ t x, doneL F10 = (t, x) := ⟨_, _, rfl⟩
        obtain ⟨tw, xw, EW⟩ : ∃ t x, wholeA ⟨1, v1, ⟨#[]⟩, v2, v3, v4, v5, v6, v7, v8, v9, v10, 0, []⟩ = (t, x) := ⟨_, _, rfl⟩
        have HED := Aside0.mk ED
        have HWf : Aside0 (∀ W, Calls Tryz.prog 27 #[.agg #[.int .i64 1, .string v1, .string ⟨#[]⟩, .string v2, .string v3, .int .i64 v4, .int .i64 v5, .int .i64 v6, .int .i64 v7, .int .i64 v8, .int .i64 v9, .int .i64 v10, .int .i64 0, .slice none 0 0]] W fun e w' => e = .returned (.tuple #[.int .i64 tw, .int .i64 xw]) ∧ Below W.heap.size W w') := ⟨fun W => spigotref12_Whole.calls 67 _ _ _ _ _ _ _ _ _ _ _ _ _ none 0 [] tw xw W (Kd.R_reads' (Kd.R_nil (Kd.int .i64) 0 W 0 (fun _ => True))).2.2 (Nat.zero_le _) (by rw [← EW]; exact ref_whole_f ⟨1, v1, ⟨#[]⟩, v2, v3, v4, v5, v6, v7, v8, v9, v10, 0, []⟩)⟩
        have B0 : Aside0 (RefBox w (fun j => j < g ∨ j = w1.heap.size) g A c L w.heap.size w1.heap.size 32 #[.int .i64 0, .string ⟨#[]⟩, .string ⟨#[]⟩, .string ⟨#[]⟩, .string ⟨#[]⟩, .int .i64 0, .int .i64 0, .int .i64 0, .int .i64 0, .int .i64 0, .int .i64 0, .int .i64 0, .int .i64 0, .slice none 0 0] (F.mark 35) 1 #[.int .i64 1, .string ⟨#[]⟩, .string ⟨#[]⟩, .string ⟨#[]⟩, .string ⟨#[]⟩, .int .i64 0, .int .i64 0, .int .i64 0, .int .i64 0, .int .i64 0, .int .i64 0, .int .i64 0, .int .i64 0, .slice none 0 0] wr) := ⟨B0.out⟩
        have HE1 := Aside0.mk E1
        have HE2 := Aside0.mk E2
        have HE3 := Aside0.mk E3
        have HE4 := Aside0.mk E4
        have HE5 := Aside0.mk E5
        have HE6 := Aside0.mk E6
        have HE7 := Aside0.mk E7
        have HE8 := Aside0.mk E8
        have HE9 := Aside0.mk E9
        have HE10 := Aside0.mk E10
        have hbx : wr.heap[w1.heap.size]? = some (.cells #[.int .i64 1, .string ⟨#[]⟩, .string ⟨#[]⟩, .string ⟨#[]⟩, .string ⟨#[]⟩, .int .i64 0, .int .i64 0, .int .i64 0, .int .i64 0, .int .i64 0, .int .i64 0, .int .i64 0, .int .i64 0, .slice none 0 0] 32 (0, 0)) := B0.out.box
        have hc := fun i => blk_cell hbx i
        have hzz := fun i => blk_frozen hbx i
        have Ha := Aside0.mk ha
        have HEW := Aside0.mk EW
        clear ha EW ED hbx hbx0 E1 E2 E3 E4 E5 E6 E7 E8 E9 E10 HD0 HWd
        go_wp2_with (first
          | (go_at_call 36; ((with_reducible refine (B0.out.name HE1.out HL.out (by omega) HZ.out).mono ?_)); rintro en w21 ⟨rfl, hb⟩; (try clear hc hzz); have hbx : w21.heap[w1.heap.size]? = some (.cells #[.int .i64 1, .string ⟨#[]⟩, .string ⟨#[]⟩, .string ⟨#[]⟩, .string ⟨#[]⟩, .int .i64 0, .int .i64 0, .int .i64 0, .int .i64 0, .int .i64 0, .int .i64 0, .int .i64 0, .int .i64 0, .slice none 0 0] 32 (0, 0)) := hb.box; have hc := fun i => blk_cell hbx i; have hzz := fun i => blk_frozen hbx i; have B1 : Aside0 (RefBox w _ g A c L w.heap.size w1.heap.size 32 #[.int .i64 0, .string ⟨#[]⟩, .string ⟨#[]⟩, .string ⟨#[]⟩, .string ⟨#[]⟩, .int .i64 0, .int .i64 0, .int .i64 0, .int .i64 0, .int .i64 0, .int .i64 0, .int .i64 0, .int .i64 0, .slice none 0 0] F1 _ #[.int .i64 1, .string v1, .string ⟨#[]⟩, .string ⟨#[]⟩, .string ⟨#[]⟩, .int .i64 0, .int .i64 0, .int .i64 0, .int .i64 0, .int .i64 0, .int .i64 0, .int .i64 0, .int .i64 0, .slice none 0 0] _) := ⟨hb.set 1 (.string v1)⟩; clear hbx hb B0)
          | (go_at_call 36; ((with_reducible refine (B1.out.name HE2.out HL.out (by omega) HZ.out).mono ?_)); rintro en w22 ⟨rfl, hb⟩; (try clear hc hzz); have hbx : w22.heap[w1.heap.size]? = some (.cells #[.int .i64 1, .string v1, .string ⟨#[]⟩, .string ⟨#[]⟩, .string ⟨#[]⟩, .int .i64 0, .int .i64 0, .int .i64 0, .int .i64 0, .int .i64 0, .int .i64 0, .int .i64 0, .int .i64 0, .slice none 0 0] 32 (0, 0)) := hb.box; have hc := fun i => blk_cell hbx i; have hzz := fun i => blk_frozen hbx i; have B2 : Aside0 (RefBox w _ g A c L w.heap.size w1.heap.size 32 #[.int .i64 0, .string ⟨#[]⟩, .string ⟨#[]⟩, .string ⟨#[]⟩, .string ⟨#[]⟩, .int .i64 0, .int .i64 0, .int .i64 0, .int .i64 0, .int .i64 0, .int .i64 0, .int .i64 0, .int .i64 0, .slice none 0 0] F2 _ #[.int .i64 1, .string v1, .string ⟨#[]⟩, .string v2, .string ⟨#[]⟩, .int .i64 0, .int .i64 0, .int .i64 0, .int .i64 0, .int .i64 0, .int .i64 0, .int .i64 0, .int .i64 0, .slice none 0 0] _) := ⟨hb.set 3 (.string v2)⟩; clear hbx hb B1)
          | (go_at_call 36; ((with_reducible refine (B2.out.name HE3.out HL.out (by omega) HZ.out).mono ?_)); rintro en w23 ⟨rfl, hb⟩; (try clear hc hzz); have hbx : w23.heap[w1.heap.size]? = some (.cells #[.int .i64 1, .string v1, .string ⟨#[]⟩, .string v2, .string ⟨#[]⟩, .int .i64 0, .int .i64 0, .int .i64 0, .int .i64 0, .int .i64 0, .int .i64 0, .int .i64 0, .int .i64 0, .slice none 0 0] 32 (0, 0)) := hb.box; have hc := fun i => blk_cell hbx i; have hzz := fun i => blk_frozen hbx i; have B3 : Aside0 (RefBox w _ g A c L w.heap.size w1.heap.size 32 #[.int .i64 0, .string ⟨#[]⟩, .string ⟨#[]⟩, .string ⟨#[]⟩, .string ⟨#[]⟩, .int .i64 0, .int .i64 0, .int .i64 0, .int .i64 0, .int .i64 0, .int .i64 0, .int .i64 0, .int .i64 0, .slice none 0 0] F3 _ #[.int .i64 1, .string v1, .string ⟨#[]⟩, .string v2, .string v3, .int .i64 0, .int .i64 0, .int .i64 0, .int .i64 0, .int .i64 0, .int .i64 0, .int .i64 0, .int .i64 0, .slice none 0 0] _) := ⟨hb.set 4 (.string v3)⟩; clear hbx hb B2)
          | (go_at_call 37; ((with_reducible refine (B3.out.int HE4.out HL.out (by omega) HZ.out).mono ?_)); rintro en w24 ⟨rfl, hb⟩; (try clear hc hzz); have hbx : w24.heap[w1.heap.size]? = some (.cells #[.int .i64 1, .string v1, .string ⟨#[]⟩, .string v2, .string v3, .int .i64 0, .int .i64 0, .int .i64 0, .int .i64 0, .int .i64 0, .int .i64 0, .int .i64 0, .int .i64 0, .slice none 0 0] 32 (0, 0)) := hb.box; have hc := fun i => blk_cell hbx i; have hzz := fun i => blk_frozen hbx i; have B4 : Aside0 (RefBox w _ g A c L w.heap.size w1.heap.size 32 #[.int .i64 0, .string ⟨#[]⟩, .string ⟨#[]⟩, .string ⟨#[]⟩, .string ⟨#[]⟩, .int .i64 0, .int .i64 0, .int .i64 0, .int .i64 0, .int .i64 0, .int .i64 0, .int .i64 0, .int .i64 0, .slice none 0 0] F4 _ #[.int .i64 1, .string v1, .string ⟨#[]⟩, .string v2, .string v3, .int .i64 v4, .int .i64 0, .int .i64 0, .int .i64 0, .int .i64 0, .int .i64 0, .int .i64 0, .int .i64 0, .slice none 0 0] _) := ⟨hb.set 5 (.int .i64 v4)⟩; clear hbx hb B3)
          | (go_at_call 37; ((with_reducible refine (B4.out.int HE5.out HL.out (by omega) HZ.out).mono ?_)); rintro en w25 ⟨rfl, hb⟩; (try clear hc hzz); have hbx : w25.heap[w1.heap.size]? = some (.cells #[.int .i64 1, .string v1, .string ⟨#[]⟩, .string v2, .string v3, .int .i64 v4, .int .i64 0, .int .i64 0, .int .i64 0, .int .i64 0, .int .i64 0, .int .i64 0, .int .i64 0, .slice none 0 0] 32 (0, 0)) := hb.box; have hc := fun i => blk_cell hbx i; have hzz := fun i => blk_frozen hbx i; have B5 : Aside0 (RefBox w _ g A c L w.heap.size w1.heap.size 32 #[.int .i64 0, .string ⟨#[]⟩, .string ⟨#[]⟩, .string ⟨#[]⟩, .string ⟨#[]⟩, .int .i64 0, .int .i64 0, .int .i64 0, .int .i64 0, .int .i64 0, .int .i64 0, .int .i64 0, .int .i64 0, .slice none 0 0] F5 _ #[.int .i64 1, .string v1, .string ⟨#[]⟩, .string v2, .string v3, .int .i64 v4, .int .i64 v5, .int .i64 0, .int .i64 0, .int .i64 0, .int .i64 0, .int .i64 0, .int .i64 0, .slice none 0 0] _) := ⟨hb.set 6 (.int .i64 v5)⟩; clear hbx hb B4)
          | (go_at_call 37; ((with_reducible refine (B5.out.int HE6.out HL.out (by omega) HZ.out).mono ?_)); rintro en w26 ⟨rfl, hb⟩; (try clear hc hzz); have hbx : w26.heap[w1.heap.size]? = some (.cells #[.int .i64 1, .string v1, .string ⟨#[]⟩, .string v2, .string v3, .int .i64 v4, .int .i64 v5, .int .i64 0, .int .i64 0, .int .i64 0, .int .i64 0, .int .i64 0, .int .i64 0, .slice none 0 0] 32 (0, 0)) := hb.box; have hc := fun i => blk_cell hbx i; have hzz := fun i => blk_frozen hbx i; have B6 : Aside0 (RefBox w _ g A c L w.heap.size w1.heap.size 32 #[.int .i64 0, .string ⟨#[]⟩, .string ⟨#[]⟩, .string ⟨#[]⟩, .string ⟨#[]⟩, .int .i64 0, .int .i64 0, .int .i64 0, .int .i64 0, .int .i64 0, .int .i64 0, .int .i64 0, .int .i64 0, .slice none 0 0] F6 _ #[.int .i64 1, .string v1, .string ⟨#[]⟩, .string v2, .string v3, .int .i64 v4, .int .i64 v5, .int .i64 v6, .int .i64 0, .int .i64 0, .int .i64 0, .int .i64 0, .int .i64 0, .slice none 0 0] _) := ⟨hb.set 7 (.int .i64 v6)⟩; clear hbx hb B5)
          | (go_at_call 37; ((with_reducible refine (B6.out.int HE7.out HL.out (by omega) HZ.out).mono ?_)); rintro en w27 ⟨rfl, hb⟩; (try clear hc hzz); have hbx : w27.heap[w1.heap.size]? = some (.cells #[.int .i64 1, .string v1, .string ⟨#[]⟩, .string v2, .string v3, .int .i64 v4, .int .i64 v5, .int .i64 v6, .int .i64 0, .int .i64 0, .int .i64 0, .int .i64 0, .int .i64 0, .slice none 0 0] 32 (0, 0)) := hb.box; have hc := fun i => blk_cell hbx i; have hzz := fun i => blk_frozen hbx i; have B7 : Aside0 (RefBox w _ g A c L w.heap.size w1.heap.size 32 #[.int .i64 0, .string ⟨#[]⟩, .string ⟨#[]⟩, .string ⟨#[]⟩, .string ⟨#[]⟩, .int .i64 0, .int .i64 0, .int .i64 0, .int .i64 0, .int .i64 0, .int .i64 0, .int .i64 0, .int .i64 0, .slice none 0 0] F7 _ #[.int .i64 1, .string v1, .string ⟨#[]⟩, .string v2, .string v3, .int .i64 v4, .int .i64 v5, .int .i64 v6, .int .i64 v7, .int .i64 0, .int .i64 0, .int .i64 0, .int .i64 0, .slice none 0 0] _) := ⟨hb.set 8 (.int .i64 v7)⟩; clear hbx hb B6)
          | (go_at_call 37; ((with_reducible refine (B7.out.int HE8.out HL.out (by omega) HZ.out).mono ?_)); rintro en w28 ⟨rfl, hb⟩; (try clear hc hzz); have hbx : w28.heap[w1.heap.size]? = some (.cells #[.int .i64 1, .string v1, .string ⟨#[]⟩, .string v2, .string v3, .int .i64 v4, .int .i64 v5, .int .i64 v6, .int .i64 v7, .int .i64 0, .int .i64 0, .int .i64 0, .int .i64 0, .slice none 0 0] 32 (0, 0)) := hb.box; have hc := fun i => blk_cell hbx i; have hzz := fun i => blk_frozen hbx i; have B8 : Aside0 (RefBox w _ g A c L w.heap.size w1.heap.size 32 #[.int .i64 0, .string ⟨#[]⟩, .string ⟨#[]⟩, .string ⟨#[]⟩, .string ⟨#[]⟩, .int .i64 0, .int .i64 0, .int .i64 0, .int .i64 0, .int .i64 0, .int .i64 0, .int .i64 0, .int .i64 0, .slice none 0 0] F8 _ #[.int .i64 1, .string v1, .string ⟨#[]⟩, .string v2, .string v3, .int .i64 v4, .int .i64 v5, .int .i64 v6, .int .i64 v7, .int .i64 v8, .int .i64 0, .int .i64 0, .int .i64 0, .slice none 0 0] _) := ⟨hb.set 9 (.int .i64 v8)⟩; clear hbx hb B7)
          | (go_at_call 37; ((with_reducible refine (B8.out.int HE9.out HL.out (by omega) HZ.out).mono ?_)); rintro en w29 ⟨rfl, hb⟩; (try clear hc hzz); have hbx : w29.heap[w1.heap.size]? = some (.cells #[.int .i64 1, .string v1, .string ⟨#[]⟩, .string v2, .string v3, .int .i64 v4, .int .i64 v5, .int .i64 v6, .int .i64 v7, .int .i64 v8, .int .i64 0, .int .i64 0, .int .i64 0, .slice none 0 0] 32 (0, 0)) := hb.box; have hc := fun i => blk_cell hbx i; have hzz := fun i => blk_frozen hbx i; have B9 : Aside0 (RefBox w _ g A c L w.heap.size w1.heap.size 32 #[.int .i64 0, .string ⟨#[]⟩, .string ⟨#[]⟩, .string ⟨#[]⟩, .string ⟨#[]⟩, .int .i64 0, .int .i64 0, .int .i64 0, .int .i64 0, .int .i64 0, .int .i64 0, .int .i64 0, .int .i64 0, .slice none 0 0] F9 _ #[.int .i64 1, .string v1, .string ⟨#[]⟩, .string v2, .string v3, .int .i64 v4, .int .i64 v5, .int .i64 v6, .int .i64 v7, .int .i64 v8, .int .i64 v9, .int .i64 0, .int .i64 0, .slice none 0 0] _) := ⟨hb.set 10 (.int .i64 v9)⟩; clear hbx hb B8)
          | (go_at_call 37; ((with_reducible refine (B9.out.int HE10.out HL.out (by omega) HZ.out).mono ?_)); rintro en w30 ⟨rfl, hb⟩; (try clear hc hzz); have hbx : w30.heap[w1.heap.size]? = some (.cells #[.int .i64 1, .string v1, .string ⟨#[]⟩, .string v2, .string v3, .int .i64 v4, .int .i64 v5, .int .i64 v6, .int .i64 v7, .int .i64 v8, .int .i64 v9, .int .i64 0, .int .i64 0, .slice none 0 0] 32 (0, 0)) := hb.box; have hc := fun i => blk_cell hbx i; have hzz := fun i => blk_frozen hbx i; have B10 : Aside0 (RefBox w _ g A c L w.heap.size w1.heap.size 32 #[.int .i64 0, .string ⟨#[]⟩, .string ⟨#[]⟩, .string ⟨#[]⟩, .string ⟨#[]⟩, .int .i64 0, .int .i64 0, .int .i64 0, .int .i64 0, .int .i64 0, .int .i64 0, .int .i64 0, .int .i64 0, .slice none 0 0] F10 _ #[.int .i64 1, .string v1, .string ⟨#[]⟩, .string v2, .string v3, .int .i64 v4, .int .i64 v5, .int .i64 v6, .int .i64 v7, .int .i64 v8, .int .i64 v9, .int .i64 v10, .int .i64 0, .slice none 0 0] _) := ⟨hb.set 11 (.int .i64 v10)⟩; clear hbx hb B9))
        by_cases hxd : xd = 0
        · subst hxd
          by_cases hxw : xw = 0
          · subst hxw
            have HD : Aside0 (res = (⟨1, v1, ⟨#[]⟩, v2, v3, v4, v5, v6, v7, v8, v9, v10, 0, []⟩, 0, 0)) := ⟨HDg.out _ F10 HK0.out Ha.out (by rw [HED.out]) (by rw [HEW.out])⟩
            go_wp2_with (first
              | (go_at_call 39; ((with_reducible refine (B10.out.done' HL.out (by omega) HED.out).mono ?_)); rintro en w40 ⟨rfl, hb, hl⟩; clear hc hzz; have hbx : w40.heap[w1.heap.size]? = some (.cells #[.int .i64 1, .string v1, .string ⟨#[]⟩, .string v2, .string v3, .int .i64 v4, .int .i64 v5, .int .i64 v6, .int .i64 v7, .int .i64 v8, .int .i64 v9, .int .i64 v10, .int .i64 0, .slice none 0 0] 32 (0, 0)) := hb.box; have hc := fun i => blk_cell hbx i; have hrx := hb.res; have hrc := fun i => blk_cell hrx i; have hrz := fun i => blk_frozen hrx i; have BQ := Aside0.mk hb.res; have HLq := Aside0.mk hb.low; have BXq := Aside0.mk hb.box; have HSq := Aside0.mk hl; clear hb hbx hrx hl)
              | (go_at_call 27; ((with_reducible refine (HWf.out _).mono ?_)); rintro en w41 ⟨rfl, hb⟩; clear hc hrc hrz; have BK := Aside0.mk (blk_below BQ.out hb); have hrc := fun i => blk_cell BK.out i; have hrz := fun i => blk_frozen BK.out i; have BY := Aside0.mk (blk_below BXq.out hb); have hbx : w41.heap[w1.heap.size]? = some (.cells #[.int .i64 1, .string v1, .string ⟨#[]⟩, .string v2, .string v3, .int .i64 v4, .int .i64 v5, .int .i64 v6, .int .i64 v7, .int .i64 v8, .int .i64 v9, .int .i64 v10, .int .i64 0, .slice none 0 0] 32 (0, 0)) := BY.out; have hc := fun i => blk_cell hbx i; have HLow := Aside0.mk (HLq.out.trans (hb.mono HLq.out.size)); clear hb hbx))
            refine bodyPost_ret (results_ctt rfl _ _ w.heap.size 32 #[.int .i64 1, .string v1, .string ⟨#[]⟩, .string v2, .string v3, .int .i64 v4, .int .i64 v5, .int .i64 v6, .int .i64 v7, .int .i64 v8, .int .i64 v9, .int .i64 v10, .int .i64 0, .slice none 0 0] (0, 0) _ rfl (blk_fill14 BK.out _ _ _ _ _ _ _ _ _ _ _ _ _ _) Tryz.underlying32 rfl (by kernel_rfl)) rfl ?_
            exact AskIs.mk_ (a := ⟨1, v1, ⟨#[]⟩, v2, v3, v4, v5, v6, v7, v8, v9, v10, 0, []⟩) (ok := fun _ => True) HD.out (Kd.R_nil _ _ _ _ _) (low_fill14 HLow.out _ _ _ _ _ _ _ _ _ _ _ _ _ _)
          · have HD : Aside0 (res = (zAsk, tw, xw)) := ⟨HDw.out _ F10 tw xw HK0.out Ha.out (by rw [HED.out]) HEW.out hxw⟩
            have t2 : (xw != 0) = true := by rw [bne_iff_ne]; exact hxw
            clear hxw
            go_wp2_with (first
              | (go_at_call 39; ((with_reducible refine (B10.out.done' HL.out (by omega) HED.out).mono ?_)); rintro en w40 ⟨rfl, hb, hl⟩; clear hc hzz; have hbx : w40.heap[w1.heap.size]? = some (.cells #[.int .i64 1, .string v1, .string ⟨#[]⟩, .string v2, .string v3, .int .i64 v4, .int .i64 v5, .int .i64 v6, .int .i64 v7, .int .i64 v8, .int .i64 v9, .int .i64 v10, .int .i64 0, .slice none 0 0] 32 (0, 0)) := hb.box; have hc := fun i => blk_cell hbx i; have hrx := hb.res; have hrc := fun i => blk_cell hrx i; have hrz := fun i => blk_frozen hrx i; have BQ := Aside0.mk hb.res; have HLq := Aside0.mk hb.low; have BXq := Aside0.mk hb.box; have HSq := Aside0.mk hl; clear hb hbx hrx hl)
              | (go_at_call 27; ((with_reducible refine (HWf.out _).mono ?_)); rintro en w41 ⟨rfl, hb⟩; clear hc hrc hrz; have BK := Aside0.mk (blk_below BQ.out hb); have hrc := fun i => blk_cell BK.out i; have hrz := fun i => blk_frozen BK.out i; have BY := Aside0.mk (blk_below BXq.out hb); have hbx : w41.heap[w1.heap.size]? = some (.cells #[.int .i64 1, .string v1, .string ⟨#[]⟩, .string v2, .string v3, .int .i64 v4, .int .i64 v5, .int .i64 v6, .int .i64 v7, .int .i64 v8, .int .i64 v9, .int .i64 v10, .int .i64 0, .slice none 0 0] 32 (0, 0)) := BY.out; have hc := fun i => blk_cell hbx i; have HLow := Aside0.mk (HLq.out.trans (hb.mono HLq.out.size)); clear hb hbx))
            refine bodyPost_ret (results_ctt rfl _ _ w.heap.size 32 #[.int .i64 0, .string ⟨#[]⟩, .string ⟨#[]⟩, .string ⟨#[]⟩, .string ⟨#[]⟩, .int .i64 0, .int .i64 0, .int .i64 0, .int .i64 0, .int .i64 0, .int .i64 0, .int .i64 0, .int .i64 0, .slice none 0 0] (0, 0) _ rfl (blk_fill14 BK.out _ _ _ _ _ _ _ _ _ _ _ _ _ _) Tryz.underlying32 rfl (by kernel_rfl)) rfl ?_
            exact AskIs.mk_ (a := zAsk) (ok := fun _ => True) HD.out (Kd.R_nil _ _ _ _ _) (low_fill14 HLow.out _ _ _ _ _ _ _ _ _ _ _ _ _ _)
        · have HD : Aside0 (res = (zAsk, td, xd)) := ⟨HDb.out _ F10 td xd HK0.out Ha.out HED.out hxd⟩
          have t2 : (xd != 0) = true := by rw [bne_iff_ne]; exact hxd
          have t3 : (xd == 0) = false := by rw [beq_eq_false_iff_ne]; exact hxd
          clear hxd
          go_wp2_with (go_at_call 39; ((with_reducible refine (B10.out.done' HL.out (by omega) HED.out).mono ?_)); rintro en w40 ⟨rfl, hb, hl⟩; clear hc hzz; have hbx : w40.heap[w1.heap.size]? = some (.cells #[.int .i64 1, .string v1, .string ⟨#[]⟩, .string v2, .string v3, .int .i64 v4, .int .i64 v5, .int .i64 v6, .int .i64 v7, .int .i64 v8, .int .i64 v9, .int .i64 v10, .int .i64 0, .slice none 0 0] 32 (0, 0)) := hb.box; have hc := fun i => blk_cell hbx i; have hrx := hb.res; have hrc := fun i => blk_cell hrx i; have hrz := fun i => blk_frozen hrx i; have BQ := Aside0.mk hb.res; have HLq := Aside0.mk hb.low; have BXq := Aside0.mk hb.box; have HSq := Aside0.mk hl; clear hb hbx hrx hl)
          refine bodyPost_ret (results_ctt rfl _ _ w.heap.size 32 #[.int .i64 0, .string ⟨#[]⟩, .string ⟨#[]⟩, .string ⟨#[]⟩, .string ⟨#[]⟩, .int .i64 0, .int .i64 0, .int .i64 0, .int .i64 0, .int .i64 0, .int .i64 0, .int .i64 0, .int .i64 0, .slice none 0 0] (0, 0) _ rfl (blk_fill14 BQ.out _ _ _ _ _ _ _ _ _ _ _ _ _ _) Tryz.underlying32 rfl (by kernel_rfl)) rfl ?_
          exact AskIs.mk_ (a := zAsk) (ok := fun _ => True) HD.out (Kd.R_nil _ _ _ _ _) (low_fill14 HLq.out _ _ _ _ _ _ _ _ _ _ _ _ _ _)
set_option maxRecDepth 100000 in
set_option maxHeartbeats 40000000 in
theorem ref12_dec_b (s : ByteArray) (w : World) (hs : s.size ≤ 140737488351232) (F : FormS) (x : Int) (hq : readB s = (some F, x)) (v : ByteArray) (hv : (F.vals 35).getD ⟨#[]⟩ = v) (hs1 : askKind v = 1) (hs2 : algOf (asksT askNew (F.mark 35)).1 ≠ 2 ∧ algOf (asksT askNew (F.mark 35)).1 ≠ 3) :
    Calls Tryz.prog 13 #[.string s] w (AskIs (askD s) w) := by
  obtain ⟨hx, hF, h1, h35, hv35⟩ := readB_some hq
  subst hx
  have he0 : F.e = 0 := by rw [hF]; rfl
  have h8 : (fieldsB s)[0].f1 = v := by rw [← hv, hv35]; rfl
  have HZ : Aside0 (∀ y ∈ fieldsB s, y.f1.size ≤ 512) := ⟨fun y hy => (fieldsB_good s y hy).2.2⟩
  have HR := Aside0.mk (ref_read_walk s (w.alloc (.cells #[.int .i64 0, .string ⟨#[]⟩, .string ⟨#[]⟩, .string ⟨#[]⟩, .string ⟨#[]⟩, .int .i64 0, .int .i64 0, .int .i64 0, .int .i64 0, .int .i64 0, .int .i64 0, .int .i64 0, .int .i64 0, .slice none 0 0] 32)) hs)
  have hL : (fieldsB s).length ≤ 1000000 := by have := fieldsB_len s; omega
  rw [hq] at HR
  have BK0 := Aside0.mk (blk_new w (.cells #[.int .i64 0, .string ⟨#[]⟩, .string ⟨#[]⟩, .string ⟨#[]⟩, .string ⟨#[]⟩, .int .i64 0, .int .i64 0, .int .i64 0, .int .i64 0, .int .i64 0, .int .i64 0, .int .i64 0, .int .i64 0, .slice none 0 0] 32))
  have HB0 : Aside0 (Below w.heap.size w (w.alloc (.cells #[.int .i64 0, .string ⟨#[]⟩, .string ⟨#[]⟩, .string ⟨#[]⟩, .string ⟨#[]⟩, .int .i64 0, .int .i64 0, .int .i64 0, .int .i64 0, .int .i64 0, .int .i64 0, .int .i64 0, .int .i64 0, .slice none 0 0] 32))) := ⟨(Below.refl _ _).alloc (Nat.le_refl _) _⟩
  have hws : (w.alloc (.cells #[.int .i64 0, .string ⟨#[]⟩, .string ⟨#[]⟩, .string ⟨#[]⟩, .string ⟨#[]⟩, .int .i64 0, .int .i64 0, .int .i64 0, .int .i64 0, .int .i64 0, .int .i64 0, .int .i64 0, .int .i64 0, .slice none 0 0] 32)).heap.size = w.heap.size + 1 := World.size_alloc _ _
  obtain ⟨kd, hkd⟩ : ∃ k, askKind v = k := ⟨_, rfl⟩
  have HK1 : Aside0 (kd = 1) := ⟨hkd.symm.trans hs1⟩
  have HAl := Aside0.mk hs2
  clear hs1 hs2
  have hk5 : kd ≤ 5 := hkd ▸ askKind_le v
  have HWd : Aside0 (∀ i : Nat, 1 ≤ i → i ≤ 5 → (askKindW (i : Int) = v ↔ kd = i)) := ⟨fun i h1 h5 => by
    have := askWord_kind v i h1 h5
    rwa [hkd] at this⟩
  have HD0 : Aside0 (kd = 0 → askD s = (zAsk, 35, 120)) := ⟨fun h => askD_zero hq hv (hkd.trans h)⟩
  have HDb : Aside0 (∀ a F' t e, kd ≠ 0 → takeA (kd : Nat) (F.mark 35) = (a, F') → doneL F' = (t, e) → e ≠ 0 → askD s = (zAsk, t, e)) := ⟨fun a F' t e h0 ha hd he => askD_undone hq hv hkd h0 ha hd he⟩
  have HDw : Aside0 (∀ a F' t e, kd ≠ 0 → takeA (kd : Nat) (F.mark 35) = (a, F') → (doneL F').2 = 0 → wholeA a = (t, e) → e ≠ 0 → askD s = (zAsk, t, e)) := ⟨fun a F' t e h0 ha hd hw he => askD_broken hq hv hkd h0 ha hd hw he⟩
  have HDg : Aside0 (∀ a F', kd ≠ 0 → takeA (kd : Nat) (F.mark 35) = (a, F') → (doneL F').2 = 0 → (wholeA a).2 = 0 → askD s = (a, 0, 0)) := ⟨fun a F' h0 ha hd hw => askD_good hq hv hkd h0 ha hd hw⟩
  have HKd := Aside0.mk hk5
  have HE0 := Aside0.mk he0
  clear hF hv35 h35 hq hkd hv he0
  generalize fieldsB s = L at *
  generalize askD s = res at *
  have HL := Aside0.mk hL
  have H8 := Aside0.mk h8
  clear hL h8
  go_enter Tryz.func13, Tryz.ntmps13
  go_wp2_with (first
    | (go_at_call 33; refine HR.out.mono ?_; rintro en w1 ⟨hb1, g, A, c, rfl, hf, hg⟩; rw [hws] at hg; have B0 := Aside0.mk (RefBox.start (w := w) (T := 32) (Z0 := #[.int .i64 0, .string ⟨#[]⟩, .string ⟨#[]⟩, .string ⟨#[]⟩, .string ⟨#[]⟩, .int .i64 0, .int .i64 0, .int .i64 0, .int .i64 0, .int .i64 0, .int .i64 0, .int .i64 0, .int .i64 0, .slice none 0 0]) hf (blk_below BK0.out hb1) (HB0.out.trans (hb1.mono HB0.out.size)) (by omega) (Nat.le_refl _)); clear hb1 hf hg HR BK0 HB0 hws)
    | (go_at_call 34; refine (B0.out.kind HL.out (by decide) h1 HE0.out H8.out).mono ?_; rintro en w2 ⟨rfl, hb⟩; have B1 := Aside0.mk hb; clear hb B0))
  go_loopw [9] (fun v9 wr => ∃ i : Nat, v9 = .int .i64 (i : Int) ∧ 1 ≤ i ∧ i ≤ 6 ∧ Aside0 (RefBox w (fun j => j < g ∨ j = w1.heap.size) g A c L w.heap.size w1.heap.size 32 #[.int .i64 0, .string ⟨#[]⟩, .string ⟨#[]⟩, .string ⟨#[]⟩, .string ⟨#[]⟩, .int .i64 0, .int .i64 0, .int .i64 0, .int .i64 0, .int .i64 0, .int .i64 0, .int .i64 0, .int .i64 0, .slice none 0 0] (F.mark 35) 1 #[.int .i64 (if kd < i then (kd : Int) else 0), .string ⟨#[]⟩, .string ⟨#[]⟩, .string ⟨#[]⟩, .string ⟨#[]⟩, .int .i64 0, .int .i64 0, .int .i64 0, .int .i64 0, .int .i64 0, .int .i64 0, .int .i64 0, .int .i64 0, .slice none 0 0] wr)) (fun v9 _ => 6 - (intOf v9).toNat)
  case atStart => exact ⟨1, rfl, Nat.le_refl _, by omega, ⟨by rw [show (if kd < 1 then (kd : Int) else 0) = 0 by split <;> omega]; exact B1.out⟩⟩
  case round =>
    clear B1
    obtain ⟨i, rfl, hi1, hi6, B⟩ := hrel
    by_cases hlt : i < 6
    · have hiff := HWd.out i hi1 (by omega)
      have k1 : decide ((i : Int) < 6) = true := by rw [decide_eq_true_eq]; omega
      have HWc : Aside0 (∀ W, Calls Tryz.prog 35 #[.int .i64 (i : Int)] W fun e w' => e = .returned (.string (askKindW (i : Int))) ∧ Below W.heap.size W w') := ⟨fun W => ref12_word_walk _ (by omega) W⟩
      generalize askKindW (i : Int) = r at *
      by_cases ce : kd = i
      · obtain rfl : r = v := hiff.2 ce
        have HN : Aside0 ((if kd < i + 1 then (kd : Int) else 0) = (i : Int)) := ⟨by rw [if_pos (by omega), ce]⟩
        clear hiff ce
        go_wp2_with (go_at_call 35; refine (HWc.out _).mono ?_; rintro en w3 ⟨rfl, hd⟩; have B2 := Aside0.mk (B.out.below_ hd); clear hd; have c0 : w3.cell? ⟨w1.heap.size, 0, none⟩ = some (.int .i64 (if kd < i then (kd : Int) else 0)) := blk_cell B2.out.box 0; have z0 := blk_frozen B2.out.box 0)
        refine ⟨⟨i + 1, by rw [show ((i + 1 : Nat) : Int) = (i : Int) + 1 by omega], by omega, by omega, ⟨by rw [HN.out]; exact B2.out.set 0 (.int .i64 (i : Int))⟩⟩, ?_⟩
        show 6 - ((i : Int) + 1).toNat < 6 - ((i : Int)).toNat
        omega
      · have hne : ¬ r = v := fun g => ce (hiff.1 g)
        have n1 : (r.toList == v.toList) = false := by
          rw [ByteArray.toList_eq, ByteArray.toList_eq, beq_eq_false_iff_ne]
          exact fun e => hne (ba_ext e)
        have HN : Aside0 ((if kd < i + 1 then (kd : Int) else 0) = (if kd < i then (kd : Int) else 0)) := ⟨by
          by_cases q : kd < i
          · rw [if_pos q, if_pos (by omega)]
          · rw [if_neg q, if_neg (by omega)]⟩
        clear hiff ce hne
        go_wp2_with (go_at_call 35; refine (HWc.out _).mono ?_; rintro en w3 ⟨rfl, hd⟩; have B2 := Aside0.mk (B.out.below_ hd); clear hd)
        refine ⟨⟨i + 1, by rw [show ((i + 1 : Nat) : Int) = (i : Int) + 1 by omega], by omega, by omega, ⟨by rw [HN.out]; exact B2.out⟩⟩, ?_⟩
        show 6 - ((i : Int) + 1).toNat < 6 - ((i : Int)).toNat
        omega
    · have k1 : decide ((i : Int) < 6) = false := by rw [decide_eq_false_iff_not]; omega
      have hi : i = 6 := by omega
      subst hi
      have B0 : Aside0 (RefBox w (fun j => j < g ∨ j = w1.heap.size) g A c L w.heap.size w1.heap.size 32 #[.int .i64 0, .string ⟨#[]⟩, .string ⟨#[]⟩, .string ⟨#[]⟩, .string ⟨#[]⟩, .int .i64 0, .int .i64 0, .int .i64 0, .int .i64 0, .int .i64 0, .int .i64 0, .int .i64 0, .int .i64 0, .slice none 0 0] (F.mark 35) 1 #[.int .i64 (kd : Int), .string ⟨#[]⟩, .string ⟨#[]⟩, .string ⟨#[]⟩, .string ⟨#[]⟩, .int .i64 0, .int .i64 0, .int .i64 0, .int .i64 0, .int .i64 0, .int .i64 0, .int .i64 0, .int .i64 0, .slice none 0 0] wr) := ⟨by have := B.out; rwa [if_pos (by have := HKd.out; omega)] at this⟩
      clear B H8
      have t0 : ((kd : Int) == 0) = false := by rw [beq_eq_false_iff_ne]; have := HK1.out; omega
      have hbx0 : wr.heap[w1.heap.size]? = some (.cells #[.int .i64 (kd : Int), .string ⟨#[]⟩, .string ⟨#[]⟩, .string ⟨#[]⟩, .string ⟨#[]⟩, .int .i64 0, .int .i64 0, .int .i64 0, .int .i64 0, .int .i64 0, .int .i64 0, .int .i64 0, .int .i64 0, .slice none 0 0] 32 (0, 0)) := B0.out.box
      obtain rfl := HK1.out
      obtain ⟨v1, F1, E1⟩ : ∃ v F', askL takeName ⟨#[]⟩ (F.mark 35) 11 = (v, F') := ⟨_, _, rfl⟩
      obtain ⟨v2, F2, E2⟩ : ∃ v F', askL takeName ⟨#[]⟩ F1 1 = (v, F') := ⟨_, _, rfl⟩
      obtain ⟨v3, F3, E3⟩ : ∃ v F', askL takeName ⟨#[]⟩ F2 55 = (v, F') := ⟨_, _, rfl⟩
      obtain ⟨v4, F4, E4⟩ : ∃ v F', askL (fun s => takeInt s 1 2) 0 F3 54 = (v, F') := ⟨_, _, rfl⟩
      obtain ⟨v5, F5, E5⟩ : ∃ v F', askL (fun s => takeInt s 1 1099511627776) 0 F4 38 = (v, F') := ⟨_, _, rfl⟩
      obtain ⟨v6, F6, E6⟩ : ∃ v F', askL (fun s => takeInt s 1 1099511627776) 0 F5 44 = (v, F') := ⟨_, _, rfl⟩
      obtain ⟨v7, F7, E7⟩ : ∃ v F', askL (fun s => takeInt s 1 4) 0 F6 5001 = (v, F') := ⟨_, _, rfl⟩
      obtain ⟨v8, F8, E8⟩ : ∃ v F', askL (fun s => takeInt s 0 1099511627776) 0 F7 5002 = (v, F') := ⟨_, _, rfl⟩
      obtain ⟨v9, F9, E9⟩ : ∃ v F', askL (fun s => takeInt s 0 1099511627776) 0 F8 5003 = (v, F') := ⟨_, _, rfl⟩
      have ha0 : asksT askNew (F.mark 35) = ([.s v1, .s v2, .s v3, .n v4, .n v5, .n v6, .n v7, .n v8, .n v9], F9) := by
        rw [show askNew = [.name 11, .name 1, .name 55, .int 54 1 2, .int 38 1 1099511627776, .int 44 1 1099511627776, .int 5001 1 4, .int 5002 0 1099511627776, .int 5003 0 1099511627776] from rfl, asksT_name E1, asksT_name E2, asksT_name E3, asksT_int E4, asksT_int E5, asksT_int E6, asksT_int E7, asksT_int E8, asksT_int E9]; rfl
      have hAl := HAl.out
      rw [ha0] at hAl
      replace hAl : v7 ≠ 2 ∧ v7 ≠ 3 := hAl
      obtain ⟨a2, a3⟩ := hAl
      by_cases a4 : v7 = 4
      · have hsc : algSch v7 = [.int 5005 1 1099511627776] := by rw [a4]; rfl
        obtain ⟨v10, F10, E10⟩ : ∃ v F', askL (fun s => takeInt s 1 1099511627776) 0 F9 5005 = (v, F') := ⟨_, _, rfl⟩
        have hb2 : asksT (algSch v7) F9 = ([.n v10], F10) := by rw [hsc, asksT_int E10]; rfl
        have ha : takeA ((1 : Nat) : Int) (F.mark 35) = (⟨1, v1, ⟨#[]⟩, v2, v3, v4, v5, v6, v7, v8, v9, 0, v10, []⟩, F10) := by
          show takeA 1 (F.mark 35) = _
          unfold takeA
          rw [if_pos rfl, ha0, show algOf [.s v1, .s v2, .s v3, .n v4, .n v5, .n v6, .n v7, .n v8, .n v9] = v7 from rfl, hb2]
          have n2 : ¬ v7 = 2 := (by omega); have n3 : ¬ v7 = 3 := (by omega)
          simp [askNewOf, ValT.num, ValT.str, ValT.nums, n2, n3, a4]
        have g2 : (v7 == 2) = false := beq_eq_false_iff_ne.2 (by omega)
        have g3 : (v7 == 3) = false := beq_eq_false_iff_ne.2 (by omega)
        have g4 : (v7 == 4) = true := beq_iff_eq.2 a4
        have HK0 := Aside0.mk (show (1 : Nat) ≠ 0 by decide)
        clear ha0 hsc hb2 k1 a2 a3 a4
        obtain ⟨td, xd, ED⟩ : ∃ t x, doneL F10 = (t, x) := ⟨_, _, rfl⟩
        obtain ⟨tw, xw, EW⟩ : ∃ t x, wholeA ⟨1, v1, ⟨#[]⟩, v2, v3, v4, v5, v6, v7, v8, v9, 0, v10, []⟩ = (t, x) := ⟨_, _, rfl⟩
        have HED := Aside0.mk ED
        have HWf : Aside0 (∀ W, Calls Tryz.prog 27 #[.agg #[.int .i64 1, .string v1, .string ⟨#[]⟩, .string v2, .string v3, .int .i64 v4, .int .i64 v5, .int .i64 v6, .int .i64 v7, .int .i64 v8, .int .i64 v9, .int .i64 0, .int .i64 v10, .slice none 0 0]] W fun e w' => e = .returned (.tuple #[.int .i64 tw, .int .i64 xw]) ∧ Below W.heap.size W w') := ⟨fun W => spigotref12_Whole.calls 67 _ _ _ _ _ _ _ _ _ _ _ _ _ none 0 [] tw xw W (Kd.R_reads' (Kd.R_nil (Kd.int .i64) 0 W 0 (fun _ => True))).2.2 (Nat.zero_le _) (by rw [← EW]; exact ref_whole_f ⟨1, v1, ⟨#[]⟩, v2, v3, v4, v5, v6, v7, v8, v9, 0, v10, []⟩)⟩
        have B0 : Aside0 (RefBox w (fun j => j < g ∨ j = w1.heap.size) g A c L w.heap.size w1.heap.size 32 #[.int .i64 0, .string ⟨#[]⟩, .string ⟨#[]⟩, .string ⟨#[]⟩, .string ⟨#[]⟩, .int .i64 0, .int .i64 0, .int .i64 0, .int .i64 0, .int .i64 0, .int .i64 0, .int .i64 0, .int .i64 0, .slice none 0 0] (F.mark 35) 1 #[.int .i64 1, .string ⟨#[]⟩, .string ⟨#[]⟩, .string ⟨#[]⟩, .string ⟨#[]⟩, .int .i64 0, .int .i64 0, .int .i64 0, .int .i64 0, .int .i64 0, .int .i64 0, .int .i64 0, .int .i64 0, .slice none 0 0] wr) := ⟨B0.out⟩
        have HE1 := Aside0.mk E1
        have HE2 := Aside0.mk E2
        have HE3 := Aside0.mk E3
        have HE4 := Aside0.mk E4
        have HE5 := Aside0.mk E5
        have HE6 := Aside0.mk E6
        have HE7 := Aside0.mk E7
        have HE8 := Aside0.mk E8
        have HE9 := Aside0.mk E9
        have HE10 := Aside0.mk E10
        have hbx : wr.heap[w1.heap.size]? = some (.cells #[.int .i64 1, .string ⟨#[]⟩, .string ⟨#[]⟩, .string ⟨#[]⟩, .string ⟨#[]⟩, .int .i64 0, .int .i64 0, .int .i64 0, .int .i64 0, .int .i64 0, .int .i64 0, .int .i64 0, .int .i64 0, .slice none 0 0] 32 (0, 0)) := B0.out.box
        have hc := fun i => blk_cell hbx i
        have hzz := fun i => blk_frozen hbx i
        have Ha := Aside0.mk ha
        have HEW := Aside0.mk EW
        clear ha EW ED hbx hbx0 E1 E2 E3 E4 E5 E6 E7 E8 E9 E10 HD0 HWd
        go_wp2_with (first
          | (go_at_call 36; ((with_reducible refine (B0.out.name HE1.out HL.out (by omega) HZ.out).mono ?_)); rintro en w21 ⟨rfl, hb⟩; (try clear hc hzz); have hbx : w21.heap[w1.heap.size]? = some (.cells #[.int .i64 1, .string ⟨#[]⟩, .string ⟨#[]⟩, .string ⟨#[]⟩, .string ⟨#[]⟩, .int .i64 0, .int .i64 0, .int .i64 0, .int .i64 0, .int .i64 0, .int .i64 0, .int .i64 0, .int .i64 0, .slice none 0 0] 32 (0, 0)) := hb.box; have hc := fun i => blk_cell hbx i; have hzz := fun i => blk_frozen hbx i; have B1 : Aside0 (RefBox w _ g A c L w.heap.size w1.heap.size 32 #[.int .i64 0, .string ⟨#[]⟩, .string ⟨#[]⟩, .string ⟨#[]⟩, .string ⟨#[]⟩, .int .i64 0, .int .i64 0, .int .i64 0, .int .i64 0, .int .i64 0, .int .i64 0, .int .i64 0, .int .i64 0, .slice none 0 0] F1 _ #[.int .i64 1, .string v1, .string ⟨#[]⟩, .string ⟨#[]⟩, .string ⟨#[]⟩, .int .i64 0, .int .i64 0, .int .i64 0, .int .i64 0, .int .i64 0, .int .i64 0, .int .i64 0, .int .i64 0, .slice none 0 0] _) := ⟨hb.set 1 (.string v1)⟩; clear hbx hb B0)
          | (go_at_call 36; ((with_reducible refine (B1.out.name HE2.out HL.out (by omega) HZ.out).mono ?_)); rintro en w22 ⟨rfl, hb⟩; (try clear hc hzz); have hbx : w22.heap[w1.heap.size]? = some (.cells #[.int .i64 1, .string v1, .string ⟨#[]⟩, .string ⟨#[]⟩, .string ⟨#[]⟩, .int .i64 0, .int .i64 0, .int .i64 0, .int .i64 0, .int .i64 0, .int .i64 0, .int .i64 0, .int .i64 0, .slice none 0 0] 32 (0, 0)) := hb.box; have hc := fun i => blk_cell hbx i; have hzz := fun i => blk_frozen hbx i; have B2 : Aside0 (RefBox w _ g A c L w.heap.size w1.heap.size 32 #[.int .i64 0, .string ⟨#[]⟩, .string ⟨#[]⟩, .string ⟨#[]⟩, .string ⟨#[]⟩, .int .i64 0, .int .i64 0, .int .i64 0, .int .i64 0, .int .i64 0, .int .i64 0, .int .i64 0, .int .i64 0, .slice none 0 0] F2 _ #[.int .i64 1, .string v1, .string ⟨#[]⟩, .string v2, .string ⟨#[]⟩, .int .i64 0, .int .i64 0, .int .i64 0, .int .i64 0, .int .i64 0, .int .i64 0, .int .i64 0, .int .i64 0, .slice none 0 0] _) := ⟨hb.set 3 (.string v2)⟩; clear hbx hb B1)
          | (go_at_call 36; ((with_reducible refine (B2.out.name HE3.out HL.out (by omega) HZ.out).mono ?_)); rintro en w23 ⟨rfl, hb⟩; (try clear hc hzz); have hbx : w23.heap[w1.heap.size]? = some (.cells #[.int .i64 1, .string v1, .string ⟨#[]⟩, .string v2, .string ⟨#[]⟩, .int .i64 0, .int .i64 0, .int .i64 0, .int .i64 0, .int .i64 0, .int .i64 0, .int .i64 0, .int .i64 0, .slice none 0 0] 32 (0, 0)) := hb.box; have hc := fun i => blk_cell hbx i; have hzz := fun i => blk_frozen hbx i; have B3 : Aside0 (RefBox w _ g A c L w.heap.size w1.heap.size 32 #[.int .i64 0, .string ⟨#[]⟩, .string ⟨#[]⟩, .string ⟨#[]⟩, .string ⟨#[]⟩, .int .i64 0, .int .i64 0, .int .i64 0, .int .i64 0, .int .i64 0, .int .i64 0, .int .i64 0, .int .i64 0, .slice none 0 0] F3 _ #[.int .i64 1, .string v1, .string ⟨#[]⟩, .string v2, .string v3, .int .i64 0, .int .i64 0, .int .i64 0, .int .i64 0, .int .i64 0, .int .i64 0, .int .i64 0, .int .i64 0, .slice none 0 0] _) := ⟨hb.set 4 (.string v3)⟩; clear hbx hb B2)
          | (go_at_call 37; ((with_reducible refine (B3.out.int HE4.out HL.out (by omega) HZ.out).mono ?_)); rintro en w24 ⟨rfl, hb⟩; (try clear hc hzz); have hbx : w24.heap[w1.heap.size]? = some (.cells #[.int .i64 1, .string v1, .string ⟨#[]⟩, .string v2, .string v3, .int .i64 0, .int .i64 0, .int .i64 0, .int .i64 0, .int .i64 0, .int .i64 0, .int .i64 0, .int .i64 0, .slice none 0 0] 32 (0, 0)) := hb.box; have hc := fun i => blk_cell hbx i; have hzz := fun i => blk_frozen hbx i; have B4 : Aside0 (RefBox w _ g A c L w.heap.size w1.heap.size 32 #[.int .i64 0, .string ⟨#[]⟩, .string ⟨#[]⟩, .string ⟨#[]⟩, .string ⟨#[]⟩, .int .i64 0, .int .i64 0, .int .i64 0, .int .i64 0, .int .i64 0, .int .i64 0, .int .i64 0, .int .i64 0, .slice none 0 0] F4 _ #[.int .i64 1, .string v1, .string ⟨#[]⟩, .string v2, .string v3, .int .i64 v4, .int .i64 0, .int .i64 0, .int .i64 0, .int .i64 0, .int .i64 0, .int .i64 0, .int .i64 0, .slice none 0 0] _) := ⟨hb.set 5 (.int .i64 v4)⟩; clear hbx hb B3)
          | (go_at_call 37; ((with_reducible refine (B4.out.int HE5.out HL.out (by omega) HZ.out).mono ?_)); rintro en w25 ⟨rfl, hb⟩; (try clear hc hzz); have hbx : w25.heap[w1.heap.size]? = some (.cells #[.int .i64 1, .string v1, .string ⟨#[]⟩, .string v2, .string v3, .int .i64 v4, .int .i64 0, .int .i64 0, .int .i64 0, .int .i64 0, .int .i64 0, .int .i64 0, .int .i64 0, .slice none 0 0] 32 (0, 0)) := hb.box; have hc := fun i => blk_cell hbx i; have hzz := fun i => blk_frozen hbx i; have B5 : Aside0 (RefBox w _ g A c L w.heap.size w1.heap.size 32 #[.int .i64 0, .string ⟨#[]⟩, .string ⟨#[]⟩, .string ⟨#[]⟩, .string ⟨#[]⟩, .int .i64 0, .int .i64 0, .int .i64 0, .int .i64 0, .int .i64 0, .int .i64 0, .int .i64 0, .int .i64 0, .slice none 0 0] F5 _ #[.int .i64 1, .string v1, .string ⟨#[]⟩, .string v2, .string v3, .int .i64 v4, .int .i64 v5, .int .i64 0, .int .i64 0, .int .i64 0, .int .i64 0, .int .i64 0, .int .i64 0, .slice none 0 0] _) := ⟨hb.set 6 (.int .i64 v5)⟩; clear hbx hb B4)
          | (go_at_call 37; ((with_reducible refine (B5.out.int HE6.out HL.out (by omega) HZ.out).mono ?_)); rintro en w26 ⟨rfl, hb⟩; (try clear hc hzz); have hbx : w26.heap[w1.heap.size]? = some (.cells #[.int .i64 1, .string v1, .string ⟨#[]⟩, .string v2, .string v3, .int .i64 v4, .int .i64 v5, .int .i64 0, .int .i64 0, .int .i64 0, .int .i64 0, .int .i64 0, .int .i64 0, .slice none 0 0] 32 (0, 0)) := hb.box; have hc := fun i => blk_cell hbx i; have hzz := fun i => blk_frozen hbx i; have B6 : Aside0 (RefBox w _ g A c L w.heap.size w1.heap.size 32 #[.int .i64 0, .string ⟨#[]⟩, .string ⟨#[]⟩, .string ⟨#[]⟩, .string ⟨#[]⟩, .int .i64 0, .int .i64 0, .int .i64 0, .int .i64 0, .int .i64 0, .int .i64 0, .int .i64 0, .int .i64 0, .slice none 0 0] F6 _ #[.int .i64 1, .string v1, .string ⟨#[]⟩, .string v2, .string v3, .int .i64 v4, .int .i64 v5, .int .i64 v6, .int .i64 0, .int .i64 0, .int .i64 0, .int .i64 0, .int .i64 0, .slice none 0 0] _) := ⟨hb.set 7 (.int .i64 v6)⟩; clear hbx hb B5)
          | (go_at_call 37; ((with_reducible refine (B6.out.int HE7.out HL.out (by omega) HZ.out).mono ?_)); rintro en w27 ⟨rfl, hb⟩; (try clear hc hzz); have hbx : w27.heap[w1.heap.size]? = some (.cells #[.int .i64 1, .string v1, .string ⟨#[]⟩, .string v2, .string v3, .int .i64 v4, .int .i64 v5, .int .i64 v6, .int .i64 0, .int .i64 0, .int .i64 0, .int .i64 0, .int .i64 0, .slice none 0 0] 32 (0, 0)) := hb.box; have hc := fun i => blk_cell hbx i; have hzz := fun i => blk_frozen hbx i; have B7 : Aside0 (RefBox w _ g A c L w.heap.size w1.heap.size 32 #[.int .i64 0, .string ⟨#[]⟩, .string ⟨#[]⟩, .string ⟨#[]⟩, .string ⟨#[]⟩, .int .i64 0, .int .i64 0, .int .i64 0, .int .i64 0, .int .i64 0, .int .i64 0, .int .i64 0, .int .i64 0, .slice none 0 0] F7 _ #[.int .i64 1, .string v1, .string ⟨#[]⟩, .string v2, .string v3, .int .i64 v4, .int .i64 v5, .int .i64 v6, .int .i64 v7, .int .i64 0, .int .i64 0, .int .i64 0, .int .i64 0, .slice none 0 0] _) := ⟨hb.set 8 (.int .i64 v7)⟩; clear hbx hb B6)
          | (go_at_call 37; ((with_reducible refine (B7.out.int HE8.out HL.out (by omega) HZ.out).mono ?_)); rintro en w28 ⟨rfl, hb⟩; (try clear hc hzz); have hbx : w28.heap[w1.heap.size]? = some (.cells #[.int .i64 1, .string v1, .string ⟨#[]⟩, .string v2, .string v3, .int .i64 v4, .int .i64 v5, .int .i64 v6, .int .i64 v7, .int .i64 0, .int .i64 0, .int .i64 0, .int .i64 0, .slice none 0 0] 32 (0, 0)) := hb.box; have hc := fun i => blk_cell hbx i; have hzz := fun i => blk_frozen hbx i; have B8 : Aside0 (RefBox w _ g A c L w.heap.size w1.heap.size 32 #[.int .i64 0, .string ⟨#[]⟩, .string ⟨#[]⟩, .string ⟨#[]⟩, .string ⟨#[]⟩, .int .i64 0, .int .i64 0, .int .i64 0, .int .i64 0, .int .i64 0, .int .i64 0, .int .i64 0, .int .i64 0, .slice none 0 0] F8 _ #[.int .i64 1, .string v1, .string ⟨#[]⟩, .string v2, .string v3, .int .i64 v4, .int .i64 v5, .int .i64 v6, .int .i64 v7, .int .i64 v8, .int .i64 0, .int .i64 0, .int .i64 0, .slice none 0 0] _) := ⟨hb.set 9 (.int .i64 v8)⟩; clear hbx hb B7)
          | (go_at_call 37; ((with_reducible refine (B8.out.int HE9.out HL.out (by omega) HZ.out).mono ?_)); rintro en w29 ⟨rfl, hb⟩; (try clear hc hzz); have hbx : w29.heap[w1.heap.size]? = some (.cells #[.int .i64 1, .string v1, .string ⟨#[]⟩, .string v2, .string v3, .int .i64 v4, .int .i64 v5, .int .i64 v6, .int .i64 v7, .int .i64 v8, .int .i64 0, .int .i64 0, .int .i64 0, .slice none 0 0] 32 (0, 0)) := hb.box; have hc := fun i => blk_cell hbx i; have hzz := fun i => blk_frozen hbx i; have B9 : Aside0 (RefBox w _ g A c L w.heap.size w1.heap.size 32 #[.int .i64 0, .string ⟨#[]⟩, .string ⟨#[]⟩, .string ⟨#[]⟩, .string ⟨#[]⟩, .int .i64 0, .int .i64 0, .int .i64 0, .int .i64 0, .int .i64 0, .int .i64 0, .int .i64 0, .int .i64 0, .slice none 0 0] F9 _ #[.int .i64 1, .string v1, .string ⟨#[]⟩, .string v2, .string v3, .int .i64 v4, .int .i64 v5, .int .i64 v6, .int .i64 v7, .int .i64 v8, .int .i64 v9, .int .i64 0, .int .i64 0, .slice none 0 0] _) := ⟨hb.set 10 (.int .i64 v9)⟩; clear hbx hb B8)
          | (go_at_call 37; ((with_reducible refine (B9.out.int HE10.out HL.out (by omega) HZ.out).mono ?_)); rintro en w30 ⟨rfl, hb⟩; (try clear hc hzz); have hbx : w30.heap[w1.heap.size]? = some (.cells #[.int .i64 1, .string v1, .string ⟨#[]⟩, .string v2, .string v3, .int .i64 v4, .int .i64 v5, .int .i64 v6, .int .i64 v7, .int .i64 v8, .int .i64 v9, .int .i64 0, .int .i64 0, .slice none 0 0] 32 (0, 0)) := hb.box; have hc := fun i => blk_cell hbx i; have hzz := fun i => blk_frozen hbx i; have B10 : Aside0 (RefBox w _ g A c L w.heap.size w1.heap.size 32 #[.int .i64 0, .string ⟨#[]⟩, .string ⟨#[]⟩, .string ⟨#[]⟩, .string ⟨#[]⟩, .int .i64 0, .int .i64 0, .int .i64 0, .int .i64 0, .int .i64 0, .int .i64 0, .int .i64 0, .int .i64 0, .slice none 0 0] F10 _ #[.int .i64 1, .string v1, .string ⟨#[]⟩, .string v2, .string v3, .int .i64 v4, .int .i64 v5, .int .i64 v6, .int .i64 v7, .int .i64 v8, .int .i64 v9, .int .i64 0, .int .i64 v10, .slice none 0 0] _) := ⟨hb.set 12 (.int .i64 v10)⟩; clear hbx hb B9))
        by_cases hxd : xd = 0
        · subst hxd
          by_cases hxw : xw = 0
          · subst hxw
            have HD : Aside0 (res = (⟨1, v1, ⟨#[]⟩, v2, v3, v4, v5, v6, v7, v8, v9, 0, v10, []⟩, 0, 0)) := ⟨HDg.out _ F10 HK0.out Ha.out (by rw [HED.out]) (by rw [HEW.out])⟩
            go_wp2_with (first
              | (go_at_call 39; ((with_reducible refine (B10.out.done' HL.out (by omega) HED.out).mono ?_)); rintro en w40 ⟨rfl, hb, hl⟩; clear hc hzz; have hbx : w40.heap[w1.heap.size]? = some (.cells #[.int .i64 1, .string v1, .string ⟨#[]⟩, .string v2, .string v3, .int .i64 v4, .int .i64 v5, .int .i64 v6, .int .i64 v7, .int .i64 v8, .int .i64 v9, .int .i64 0, .int .i64 v10, .slice none 0 0] 32 (0, 0)) := hb.box; have hc := fun i => blk_cell hbx i; have hrx := hb.res; have hrc := fun i => blk_cell hrx i; have hrz := fun i => blk_frozen hrx i; have BQ := Aside0.mk hb.res; have HLq := Aside0.mk hb.low; have BXq := Aside0.mk hb.box; have HSq := Aside0.mk hl; clear hb hbx hrx hl)
              | (go_at_call 27; ((with_reducible refine (HWf.out _).mono ?_)); rintro en w41 ⟨rfl, hb⟩; clear hc hrc hrz; have BK := Aside0.mk (blk_below BQ.out hb); have hrc := fun i => blk_cell BK.out i; have hrz := fun i => blk_frozen BK.out i; have BY := Aside0.mk (blk_below BXq.out hb); have hbx : w41.heap[w1.heap.size]? = some (.cells #[.int .i64 1, .string v1, .string ⟨#[]⟩, .string v2, .string v3, .int .i64 v4, .int .i64 v5, .int .i64 v6, .int .i64 v7, .int .i64 v8, .int .i64 v9, .int .i64 0, .int .i64 v10, .slice none 0 0] 32 (0, 0)) := BY.out; have hc := fun i => blk_cell hbx i; have HLow := Aside0.mk (HLq.out.trans (hb.mono HLq.out.size)); clear hb hbx))
            refine bodyPost_ret (results_ctt rfl _ _ w.heap.size 32 #[.int .i64 1, .string v1, .string ⟨#[]⟩, .string v2, .string v3, .int .i64 v4, .int .i64 v5, .int .i64 v6, .int .i64 v7, .int .i64 v8, .int .i64 v9, .int .i64 0, .int .i64 v10, .slice none 0 0] (0, 0) _ rfl (blk_fill14 BK.out _ _ _ _ _ _ _ _ _ _ _ _ _ _) Tryz.underlying32 rfl (by kernel_rfl)) rfl ?_
            exact AskIs.mk_ (a := ⟨1, v1, ⟨#[]⟩, v2, v3, v4, v5, v6, v7, v8, v9, 0, v10, []⟩) (ok := fun _ => True) HD.out (Kd.R_nil _ _ _ _ _) (low_fill14 HLow.out _ _ _ _ _ _ _ _ _ _ _ _ _ _)
          · have HD : Aside0 (res = (zAsk, tw, xw)) := ⟨HDw.out _ F10 tw xw HK0.out Ha.out (by rw [HED.out]) HEW.out hxw⟩
            have t2 : (xw != 0) = true := by rw [bne_iff_ne]; exact hxw
            clear hxw
            go_wp2_with (first
              | (go_at_call 39; ((with_reducible refine (B10.out.done' HL.out (by omega) HED.out).mono ?_)); rintro en w40 ⟨rfl, hb, hl⟩; clear hc hzz; have hbx : w40.heap[w1.heap.size]? = some (.cells #[.int .i64 1, .string v1, .string ⟨#[]⟩, .string v2, .string v3, .int .i64 v4, .int .i64 v5, .int .i64 v6, .int .i64 v7, .int .i64 v8, .int .i64 v9, .int .i64 0, .int .i64 v10, .slice none 0 0] 32 (0, 0)) := hb.box; have hc := fun i => blk_cell hbx i; have hrx := hb.res; have hrc := fun i => blk_cell hrx i; have hrz := fun i => blk_frozen hrx i; have BQ := Aside0.mk hb.res; have HLq := Aside0.mk hb.low; have BXq := Aside0.mk hb.box; have HSq := Aside0.mk hl; clear hb hbx hrx hl)
              | (go_at_call 27; ((with_reducible refine (HWf.out _).mono ?_)); rintro en w41 ⟨rfl, hb⟩; clear hc hrc hrz; have BK := Aside0.mk (blk_below BQ.out hb); have hrc := fun i => blk_cell BK.out i; have hrz := fun i => blk_frozen BK.out i; have BY := Aside0.mk (blk_below BXq.out hb); have hbx : w41.heap[w1.heap.size]? = some (.cells #[.int .i64 1, .string v1, .string ⟨#[]⟩, .string v2, .string v3, .int .i64 v4, .int .i64 v5, .int .i64 v6, .int .i64 v7, .int .i64 v8, .int .i64 v9, .int .i64 0, .int .i64 v10, .slice none 0 0] 32 (0, 0)) := BY.out; have hc := fun i => blk_cell hbx i; have HLow := Aside0.mk (HLq.out.trans (hb.mono HLq.out.size)); clear hb hbx))
            refine bodyPost_ret (results_ctt rfl _ _ w.heap.size 32 #[.int .i64 0, .string ⟨#[]⟩, .string ⟨#[]⟩, .string ⟨#[]⟩, .string ⟨#[]⟩, .int .i64 0, .int .i64 0, .int .i64 0, .int .i64 0, .int .i64 0, .int .i64 0, .int .i64 0, .int .i64 0, .slice none 0 0] (0, 0) _ rfl (blk_fill14 BK.out _ _ _ _ _ _ _ _ _ _ _ _ _ _) Tryz.underlying32 rfl (by kernel_rfl)) rfl ?_
            exact AskIs.mk_ (a := zAsk) (ok := fun _ => True) HD.out (Kd.R_nil _ _ _ _ _) (low_fill14 HLow.out _ _ _ _ _ _ _ _ _ _ _ _ _ _)
        · have HD : Aside0 (res = (zAsk, td, xd)) := ⟨HDb.out _ F10 td xd HK0.out Ha.out HED.out hxd⟩
          have t2 : (xd != 0) = true := by rw [bne_iff_ne]; exact hxd
          have t3 : (xd == 0) = false := by rw [beq_eq_false_iff_ne]; exact hxd
          clear hxd
          go_wp2_with (go_at_call 39; ((with_reducible refine (B10.out.done' HL.out (by omega) HED.out).mono ?_)); rintro en w40 ⟨rfl, hb, hl⟩; clear hc hzz; have hbx : w40.heap[w1.heap.size]? = some (.cells #[.int .i64 1, .string v1, .string ⟨#[]⟩, .string v2, .string v3, .int .i64 v4, .int .i64 v5, .int .i64 v6, .int .i64 v7, .int .i64 v8, .int .i64 v9, .int .i64 0, .int .i64 v10, .slice none 0 0] 32 (0, 0)) := hb.box; have hc := fun i => blk_cell hbx i; have hrx := hb.res; have hrc := fun i => blk_cell hrx i; have hrz := fun i => blk_frozen hrx i; have BQ := Aside0.mk hb.res; have HLq := Aside0.mk hb.low; have BXq := Aside0.mk hb.box; have HSq := Aside0.mk hl; clear hb hbx hrx hl)
          refine bodyPost_ret (results_ctt rfl _ _ w.heap.size 32 #[.int .i64 0, .string ⟨#[]⟩, .string ⟨#[]⟩, .string ⟨#[]⟩, .string ⟨#[]⟩, .int .i64 0, .int .i64 0, .int .i64 0, .int .i64 0, .int .i64 0, .int .i64 0, .int .i64 0, .int .i64 0, .slice none 0 0] (0, 0) _ rfl (blk_fill14 BQ.out _ _ _ _ _ _ _ _ _ _ _ _ _ _) Tryz.underlying32 rfl (by kernel_rfl)) rfl ?_
          exact AskIs.mk_ (a := zAsk) (ok := fun _ => True) HD.out (Kd.R_nil _ _ _ _ _) (low_fill14 HLq.out _ _ _ _ _ _ _ _ _ _ _ _ _ _)
      · have hsc : algSch v7 = [] := by unfold algSch; rw [if_neg a2, if_neg a3, if_neg a4]
        have hb2 : asksT (algSch v7) F9 = ([], F9) := by rw [hsc]; rfl
        have ha : takeA ((1 : Nat) : Int) (F.mark 35) = (⟨1, v1, ⟨#[]⟩, v2, v3, v4, v5, v6, v7, v8, v9, 0, 0, []⟩, F9) := by
          show takeA 1 (F.mark 35) = _
          unfold takeA
          rw [if_pos rfl, ha0, show algOf [.s v1, .s v2, .s v3, .n v4, .n v5, .n v6, .n v7, .n v8, .n v9] = v7 from rfl, hb2]
          have n2 : ¬ v7 = 2 := (by omega); have n3 : ¬ v7 = 3 := (by omega); have n4 : ¬ v7 = 4 := (by omega)
          simp [askNewOf, ValT.num, ValT.str, ValT.nums, n2, n3, n4]
        have g2 : (v7 == 2) = false := beq_eq_false_iff_ne.2 a2
        have g3 : (v7 == 3) = false := beq_eq_false_iff_ne.2 a3
        have g4 : (v7 == 4) = false := beq_eq_false_iff_ne.2 a4
        have HK0 := Aside0.mk (show (1 : Nat) ≠ 0 by decide)
        clear ha0 hsc hb2 k1 a2 a3 a4
        obtain ⟨td, xd, ED⟩ : ∃ t x, doneL F9 = (t, x) := ⟨_, _, rfl⟩
        obtain ⟨tw, xw, EW⟩ : ∃ t x, wholeA ⟨1, v1, ⟨#[]⟩, v2, v3, v4, v5, v6, v7, v8, v9, 0, 0, []⟩ = (t, x) := ⟨_, _, rfl⟩
        have HED := Aside0.mk ED
        have HWf : Aside0 (∀ W, Calls Tryz.prog 27 #[.agg #[.int .i64 1, .string v1, .string ⟨#[]⟩, .string v2, .string v3, .int .i64 v4, .int .i64 v5, .int .i64 v6, .int .i64 v7, .int .i64 v8, .int .i64 v9, .int .i64 0, .int .i64 0, .slice none 0 0]] W fun e w' => e = .returned (.tuple #[.int .i64 tw, .int .i64 xw]) ∧ Below W.heap.size W w') := ⟨fun W => spigotref12_Whole.calls 67 _ _ _ _ _ _ _ _ _ _ _ _ _ none 0 [] tw xw W (Kd.R_reads' (Kd.R_nil (Kd.int .i64) 0 W 0 (fun _ => True))).2.2 (Nat.zero_le _) (by rw [← EW]; exact ref_whole_f ⟨1, v1, ⟨#[]⟩, v2, v3, v4, v5, v6, v7, v8, v9, 0, 0, []⟩)⟩
        have B0 : Aside0 (RefBox w (fun j => j < g ∨ j = w1.heap.size) g A c L w.heap.size w1.heap.size 32 #[.int .i64 0, .string ⟨#[]⟩, .string ⟨#[]⟩, .string ⟨#[]⟩, .string ⟨#[]⟩, .int .i64 0, .int .i64 0, .int .i64 0, .int .i64 0, .int .i64 0, .int .i64 0, .int .i64 0, .int .i64 0, .slice none 0 0] (F.mark 35) 1 #[.int .i64 1, .string ⟨#[]⟩, .string ⟨#[]⟩, .string ⟨#[]⟩, .string ⟨#[]⟩, .int .i64 0, .int .i64 0, .int .i64 0, .int .i64 0, .int .i64 0, .int .i64 0, .int .i64 0, .int .i64 0, .slice none 0 0] wr) := ⟨B0.out⟩
        have HE1 := Aside0.mk E1
        have HE2 := Aside0.mk E2
        have HE3 := Aside0.mk E3
        have HE4 := Aside0.mk E4
        have HE5 := Aside0.mk E5
        have HE6 := Aside0.mk E6
        have HE7 := Aside0.mk E7
        have HE8 := Aside0.mk E8
        have HE9 := Aside0.mk E9
        have hbx : wr.heap[w1.heap.size]? = some (.cells #[.int .i64 1, .string ⟨#[]⟩, .string ⟨#[]⟩, .string ⟨#[]⟩, .string ⟨#[]⟩, .int .i64 0, .int .i64 0, .int .i64 0, .int .i64 0, .int .i64 0, .int .i64 0, .int .i64 0, .int .i64 0, .slice none 0 0] 32 (0, 0)) := B0.out.box
        have hc := fun i => blk_cell hbx i
        have hzz := fun i => blk_frozen hbx i
        have Ha := Aside0.mk ha
        have HEW := Aside0.mk EW
        clear ha EW ED hbx hbx0 E1 E2 E3 E4 E5 E6 E7 E8 E9 HD0 HWd
        go_wp2_with (first
          | (go_at_call 36; ((with_reducible refine (B0.out.name HE1.out HL.out (by omega) HZ.out).mono ?_)); rintro en w21 ⟨rfl, hb⟩; (try clear hc hzz); have hbx : w21.heap[w1.heap.size]? = some (.cells #[.int .i64 1, .string ⟨#[]⟩, .string ⟨#[]⟩, .string ⟨#[]⟩, .string ⟨#[]⟩, .int .i64 0, .int .i64 0, .int .i64 0, .int .i64 0, .int .i64 0, .int .i64 0, .int .i64 0, .int .i64 0, .slice none 0 0] 32 (0, 0)) := hb.box; have hc := fun i => blk_cell hbx i; have hzz := fun i => blk_frozen hbx i; have B1 : Aside0 (RefBox w _ g A c L w.heap.size w1.heap.size 32 #[.int .i64 0, .string ⟨#[]⟩, .string ⟨#[]⟩, .string ⟨#[]⟩, .string ⟨#[]⟩, .int .i64 0, .int .i64 0, .int .i64 0, .int .i64 0, .int .i64 0, .int .i64 0, .int .i64 0, .int .i64 0, .slice none 0 0] F1 _ #[.int .i64 1, .string v1, .string ⟨#[]⟩, .string ⟨#[]⟩, .string ⟨#[]⟩, .int .i64 0, .int .i64 0, .int .i64 0, .int .i64 0, .int .i64 0, .int .i64 0, .int .i64 0, .int .i64 0, .slice none 0 0] _) := ⟨hb.set 1 (.string v1)⟩; clear hbx hb B0)
          | (go_at_call 36; ((with_reducible refine (B1.out.name HE2.out HL.out (by omega) HZ.out).mono ?_)); rintro en w22 ⟨rfl, hb⟩; (try clear hc hzz); have hbx : w22.heap[w1.heap.size]? = some (.cells #[.int .i64 1, .string v1, .string ⟨#[]⟩, .string ⟨#[]⟩, .string ⟨#[]⟩, .int .i64 0, .int .i64 0, .int .i64 0, .int .i64 0, .int .i64 0, .int .i64 0, .int .i64 0, .int .i64 0, .slice none 0 0] 32 (0, 0)) := hb.box; have hc := fun i => blk_cell hbx i; have hzz := fun i => blk_frozen hbx i; have B2 : Aside0 (RefBox w _ g A c L w.heap.size w1.heap.size 32 #[.int .i64 0, .string ⟨#[]⟩, .string ⟨#[]⟩, .string ⟨#[]⟩, .string ⟨#[]⟩, .int .i64 0, .int .i64 0, .int .i64 0, .int .i64 0, .int .i64 0, .int .i64 0, .int .i64 0, .int .i64 0, .slice none 0 0] F2 _ #[.int .i64 1, .string v1, .string ⟨#[]⟩, .string v2, .string ⟨#[]⟩, .int .i64 0, .int .i64 0, .int .i64 0, .int .i64 0, .int .i64 0, .int .i64 0, .int .i64 0, .int .i64 0, .slice none 0 0] _) := ⟨hb.set 3 (.string v2)⟩; clear hbx hb B1)
          | (go_at_call 36; ((with_reducible refine (B2.out.name HE3.out HL.out (by omega) HZ.out).mono ?_)); rintro en w23 ⟨rfl, hb⟩; (try clear hc hzz); have hbx : w23.heap[w1.heap.size]? = some (.cells #[.int .i64 1, .string v1, .string ⟨#[]⟩, .string v2, .string ⟨#[]⟩, .int .i64 0, .int .i64 0, .int .i64 0, .int .i64 0, .int .i64 0, .int .i64 0, .int .i64 0, .int .i64 0, .slice none 0 0] 32 (0, 0)) := hb.box; have hc := fun i => blk_cell hbx i; have hzz := fun i => blk_frozen hbx i; have B3 : Aside0 (RefBox w _ g A c L w.heap.size w1.heap.size 32 #[.int .i64 0, .string ⟨#[]⟩, .string ⟨#[]⟩, .string ⟨#[]⟩, .string ⟨#[]⟩, .int .i64 0, .int .i64 0, .int .i64 0, .int .i64 0, .int .i64 0, .int .i64 0, .int .i64 0, .int .i64 0, .slice none 0 0] F3 _ #[.int .i64 1, .string v1, .string ⟨#[]⟩, .string v2, .string v3, .int .i64 0, .int .i64 0, .int .i64 0, .int .i64 0, .int .i64 0, .int .i64 0, .int .i64 0, .int .i64 0, .slice none 0 0] _) := ⟨hb.set 4 (.string v3)⟩; clear hbx hb B2)
          | (go_at_call 37; ((with_reducible refine (B3.out.int HE4.out HL.out (by omega) HZ.out).mono ?_)); rintro en w24 ⟨rfl, hb⟩; (try clear hc hzz); have hbx : w24.heap[w1.heap.size]? = some (.cells #[.int .i64 1, .string v1, .string ⟨#[]⟩, .string v2, .string v3, .int .i64 0, .int .i64 0, .int .i64 0, .int .i64 0, .int .i64 0, .int .i64 0, .int .i64 0, .int .i64 0, .slice none 0 0] 32 (0, 0)) := hb.box; have hc := fun i => blk_cell hbx i; have hzz := fun i => blk_frozen hbx i; have B4 : Aside0 (RefBox w _ g A c L w.heap.size w1.heap.size 32 #[.int .i64 0, .string ⟨#[]⟩, .string ⟨#[]⟩, .string ⟨#[]⟩, .string ⟨#[]⟩, .int .i64 0, .int .i64 0, .int .i64 0, .int .i64 0, .int .i64 0, .int .i64 0, .int .i64 0, .int .i64 0, .slice none 0 0] F4 _ #[.int .i64 1, .string v1, .string ⟨#[]⟩, .string v2, .string v3, .int .i64 v4, .int .i64 0, .int .i64 0, .int .i64 0, .int .i64 0, .int .i64 0, .int .i64 0, .int .i64 0, .slice none 0 0] _) := ⟨hb.set 5 (.int .i64 v4)⟩; clear hbx hb B3)
          | (go_at_call 37; ((with_reducible refine (B4.out.int HE5.out HL.out (by omega) HZ.out).mono ?_)); rintro en w25 ⟨rfl, hb⟩; (try clear hc hzz); have hbx : w25.heap[w1.heap.size]? = some (.cells #[.int .i64 1, .string v1, .string ⟨#[]⟩, .string v2, .string v3, .int .i64 v4, .int .i64 0, .int .i64 0, .int .i64 0, .int .i64 0, .int .i64 0, .int .i64 0, .int .i64 0, .slice none 0 0] 32 (0, 0)) := hb.box; have hc := fun i => blk_cell hbx i; have hzz := fun i => blk_frozen hbx i; have B5 : Aside0 (RefBox w _ g A c L w.heap.size w1.heap.size 32 #[.int .i64 0, .string ⟨#[]⟩, .string ⟨#[]⟩, .string ⟨#[]⟩, .string ⟨#[]⟩, .int .i64 0, .int .i64 0, .int .i64 0, .int .i64 0, .int .i64 0, .int .i64 0, .int .i64 0, .int .i64 0, .slice none 0 0] F5 _ #[.int .i64 1, .string v1, .string ⟨#[]⟩, .string v2, .string v3, .int .i64 v4, .int .i64 v5, .int .i64 0, .int .i64 0, .int .i64 0, .int .i64 0, .int .i64 0, .int .i64 0, .slice none 0 0] _) := ⟨hb.set 6 (.int .i64 v5)⟩; clear hbx hb B4)
          | (go_at_call 37; ((with_reducible refine (B5.out.int HE6.out HL.out (by omega) HZ.out).mono ?_)); rintro en w26 ⟨rfl, hb⟩; (try clear hc hzz); have hbx : w26.heap[w1.heap.size]? = some (.cells #[.int .i64 1, .string v1, .string ⟨#[]⟩, .string v2, .string v3, .int .i64 v4, .int .i64 v5, .int .i64 0, .int .i64 0, .int .i64 0, .int .i64 0, .int .i64 0, .int .i64 0, .slice none 0 0] 32 (0, 0)) := hb.box; have hc := fun i => blk_cell hbx i; have hzz := fun i => blk_frozen hbx i; have B6 : Aside0 (RefBox w _ g A c L w.heap.size w1.heap.size 32 #[.int .i64 0, .string ⟨#[]⟩, .string ⟨#[]⟩, .string ⟨#[]⟩, .string ⟨#[]⟩, .int .i64 0, .int .i64 0, .int .i64 0, .int .i64 0, .int .i64 0, .int .i64 0, .int .i64 0, .int .i64 0, .slice none 0 0] F6 _ #[.int .i64 1, .string v1, .string ⟨#[]⟩, .string v2, .string v3, .int .i64 v4, .int .i64 v5, .int .i64 v6, .int .i64 0, .int .i64 0, .int .i64 0, .int .i64 0, .int .i64 0, .slice none 0 0] _) := ⟨hb.set 7 (.int .i64 v6)⟩; clear hbx hb B5)
          | (go_at_call 37; ((with_reducible refine (B6.out.int HE7.out HL.out (by omega) HZ.out).mono ?_)); rintro en w27 ⟨rfl, hb⟩; (try clear hc hzz); have hbx : w27.heap[w1.heap.size]? = some (.cells #[.int .i64 1, .string v1, .string ⟨#[]⟩, .string v2, .string v3, .int .i64 v4, .int .i64 v5, .int .i64 v6, .int .i64 0, .int .i64 0, .int .i64 0, .int .i64 0, .int .i64 0, .slice none 0 0] 32 (0, 0)) := hb.box; have hc := fun i => blk_cell hbx i; have hzz := fun i => blk_frozen hbx i; have B7 : Aside0 (RefBox w _ g A c L w.heap.size w1.heap.size 32 #[.int .i64 0, .string ⟨#[]⟩, .string ⟨#[]⟩, .string ⟨#[]⟩, .string ⟨#[]⟩, .int .i64 0, .int .i64 0, .int .i64 0, .int .i64 0, .int .i64 0, .int .i64 0, .int .i64 0, .int .i64 0, .slice none 0 0] F7 _ #[.int .i64 1, .string v1, .string ⟨#[]⟩, .string v2, .string v3, .int .i64 v4, .int .i64 v5, .int .i64 v6, .int .i64 v7, .int .i64 0, .int .i64 0, .int .i64 0, .int .i64 0, .slice none 0 0] _) := ⟨hb.set 8 (.int .i64 v7)⟩; clear hbx hb B6)
          | (go_at_call 37; ((with_reducible refine (B7.out.int HE8.out HL.out (by omega) HZ.out).mono ?_)); rintro en w28 ⟨rfl, hb⟩; (try clear hc hzz); have hbx : w28.heap[w1.heap.size]? = some (.cells #[.int .i64 1, .string v1, .string ⟨#[]⟩, .string v2, .string v3, .int .i64 v4, .int .i64 v5, .int .i64 v6, .int .i64 v7, .int .i64 0, .int .i64 0, .int .i64 0, .int .i64 0, .slice none 0 0] 32 (0, 0)) := hb.box; have hc := fun i => blk_cell hbx i; have hzz := fun i => blk_frozen hbx i; have B8 : Aside0 (RefBox w _ g A c L w.heap.size w1.heap.size 32 #[.int .i64 0, .string ⟨#[]⟩, .string ⟨#[]⟩, .string ⟨#[]⟩, .string ⟨#[]⟩, .int .i64 0, .int .i64 0, .int .i64 0, .int .i64 0, .int .i64 0, .int .i64 0, .int .i64 0, .int .i64 0, .slice none 0 0] F8 _ #[.int .i64 1, .string v1, .string ⟨#[]⟩, .string v2, .string v3, .int .i64 v4, .int .i64 v5, .int .i64 v6, .int .i64 v7, .int .i64 v8, .int .i64 0, .int .i64 0, .int .i64 0, .slice none 0 0] _) := ⟨hb.set 9 (.int .i64 v8)⟩; clear hbx hb B7)
          | (go_at_call 37; ((with_reducible refine (B8.out.int HE9.out HL.out (by omega) HZ.out).mono ?_)); rintro en w29 ⟨rfl, hb⟩; (try clear hc hzz); have hbx : w29.heap[w1.heap.size]? = some (.cells #[.int .i64 1, .string v1, .string ⟨#[]⟩, .string v2, .string v3, .int .i64 v4, .int .i64 v5, .int .i64 v6, .int .i64 v7, .int .i64 v8, .int .i64 0, .int .i64 0, .int .i64 0, .slice none 0 0] 32 (0, 0)) := hb.box; have hc := fun i => blk_cell hbx i; have hzz := fun i => blk_frozen hbx i; have B9 : Aside0 (RefBox w _ g A c L w.heap.size w1.heap.size 32 #[.int .i64 0, .string ⟨#[]⟩, .string ⟨#[]⟩, .string ⟨#[]⟩, .string ⟨#[]⟩, .int .i64 0, .int .i64 0, .int .i64 0, .int .i64 0, .int .i64 0, .int .i64 0, .int .i64 0, .int .i64 0, .slice none 0 0] F9 _ #[.int .i64 1, .string v1, .string ⟨#[]⟩, .string v2, .string v3, .int .i64 v4, .int .i64 v5, .int .i64 v6, .int .i64 v7, .int .i64 v8, .int .i64 v9, .int .i64 0, .int .i64 0, .slice none 0 0] _) := ⟨hb.set 10 (.int .i64 v9)⟩; clear hbx hb B8))
        by_cases hxd : xd = 0
        · subst hxd
          by_cases hxw : xw = 0
          · subst hxw
            have HD : Aside0 (res = (⟨1, v1, ⟨#[]⟩, v2, v3, v4, v5, v6, v7, v8, v9, 0, 0, []⟩, 0, 0)) := ⟨HDg.out _ F9 HK0.out Ha.out (by rw [HED.out]) (by rw [HEW.out])⟩
            go_wp2_with (first
              | (go_at_call 39; ((with_reducible refine (B9.out.done' HL.out (by omega) HED.out).mono ?_)); rintro en w40 ⟨rfl, hb, hl⟩; clear hc hzz; have hbx : w40.heap[w1.heap.size]? = some (.cells #[.int .i64 1, .string v1, .string ⟨#[]⟩, .string v2, .string v3, .int .i64 v4, .int .i64 v5, .int .i64 v6, .int .i64 v7, .int .i64 v8, .int .i64 v9, .int .i64 0, .int .i64 0, .slice none 0 0] 32 (0, 0)) := hb.box; have hc := fun i => blk_cell hbx i; have hrx := hb.res; have hrc := fun i => blk_cell hrx i; have hrz := fun i => blk_frozen hrx i; have BQ := Aside0.mk hb.res; have HLq := Aside0.mk hb.low; have BXq := Aside0.mk hb.box; have HSq := Aside0.mk hl; clear hb hbx hrx hl)
              | (go_at_call 27; ((with_reducible refine (HWf.out _).mono ?_)); rintro en w41 ⟨rfl, hb⟩; clear hc hrc hrz; have BK := Aside0.mk (blk_below BQ.out hb); have hrc := fun i => blk_cell BK.out i; have hrz := fun i => blk_frozen BK.out i; have BY := Aside0.mk (blk_below BXq.out hb); have hbx : w41.heap[w1.heap.size]? = some (.cells #[.int .i64 1, .string v1, .string ⟨#[]⟩, .string v2, .string v3, .int .i64 v4, .int .i64 v5, .int .i64 v6, .int .i64 v7, .int .i64 v8, .int .i64 v9, .int .i64 0, .int .i64 0, .slice none 0 0] 32 (0, 0)) := BY.out; have hc := fun i => blk_cell hbx i; have HLow := Aside0.mk (HLq.out.trans (hb.mono HLq.out.size)); clear hb hbx))
            refine bodyPost_ret (results_ctt rfl _ _ w.heap.size 32 #[.int .i64 1, .string v1, .string ⟨#[]⟩, .string v2, .string v3, .int .i64 v4, .int .i64 v5, .int .i64 v6, .int .i64 v7, .int .i64 v8, .int .i64 v9, .int .i64 0, .int .i64 0, .slice none 0 0] (0, 0) _ rfl (blk_fill14 BK.out _ _ _ _ _ _ _ _ _ _ _ _ _ _) Tryz.underlying32 rfl (by kernel_rfl)) rfl ?_
            exact AskIs.mk_ (a := ⟨1, v1, ⟨#[]⟩, v2, v3, v4, v5, v6, v7, v8, v9, 0, 0, []⟩) (ok := fun _ => True) HD.out (Kd.R_nil _ _ _ _ _) (low_fill14 HLow.out _ _ _ _ _ _ _ _ _ _ _ _ _ _)
          · have HD : Aside0 (res = (zAsk, tw, xw)) := ⟨HDw.out _ F9 tw xw HK0.out Ha.out (by rw [HED.out]) HEW.out hxw⟩
            have t2 : (xw != 0) = true := by rw [bne_iff_ne]; exact hxw
            clear hxw
            go_wp2_with (first
              | (go_at_call 39; ((with_reducible refine (B9.out.done' HL.out (by omega) HED.out).mono ?_)); rintro en w40 ⟨rfl, hb, hl⟩; clear hc hzz; have hbx : w40.heap[w1.heap.size]? = some (.cells #[.int .i64 1, .string v1, .string ⟨#[]⟩, .string v2, .string v3, .int .i64 v4, .int .i64 v5, .int .i64 v6, .int .i64 v7, .int .i64 v8, .int .i64 v9, .int .i64 0, .int .i64 0, .slice none 0 0] 32 (0, 0)) := hb.box; have hc := fun i => blk_cell hbx i; have hrx := hb.res; have hrc := fun i => blk_cell hrx i; have hrz := fun i => blk_frozen hrx i; have BQ := Aside0.mk hb.res; have HLq := Aside0.mk hb.low; have BXq := Aside0.mk hb.box; have HSq := Aside0.mk hl; clear hb hbx hrx hl)
              | (go_at_call 27; ((with_reducible refine (HWf.out _).mono ?_)); rintro en w41 ⟨rfl, hb⟩; clear hc hrc hrz; have BK := Aside0.mk (blk_below BQ.out hb); have hrc := fun i => blk_cell BK.out i; have hrz := fun i => blk_frozen BK.out i; have BY := Aside0.mk (blk_below BXq.out hb); have hbx : w41.heap[w1.heap.size]? = some (.cells #[.int .i64 1, .string v1, .string ⟨#[]⟩, .string v2, .string v3, .int .i64 v4, .int .i64 v5, .int .i64 v6, .int .i64 v7, .int .i64 v8, .int .i64 v9, .int .i64 0, .int .i64 0, .slice none 0 0] 32 (0, 0)) := BY.out; have hc := fun i => blk_cell hbx i; have HLow := Aside0.mk (HLq.out.trans (hb.mono HLq.out.size)); clear hb hbx))
            refine bodyPost_ret (results_ctt rfl _ _ w.heap.size 32 #[.int .i64 0, .string ⟨#[]⟩, .string ⟨#[]⟩, .string ⟨#[]⟩, .string ⟨#[]⟩, .int .i64 0, .int .i64 0, .int .i64 0, .int .i64 0, .int .i64 0, .int .i64 0, .int .i64 0, .int .i64 0, .slice none 0 0] (0, 0) _ rfl (blk_fill14 BK.out _ _ _ _ _ _ _ _ _ _ _ _ _ _) Tryz.underlying32 rfl (by kernel_rfl)) rfl ?_
            exact AskIs.mk_ (a := zAsk) (ok := fun _ => True) HD.out (Kd.R_nil _ _ _ _ _) (low_fill14 HLow.out _ _ _ _ _ _ _ _ _ _ _ _ _ _)
        · have HD : Aside0 (res = (zAsk, td, xd)) := ⟨HDb.out _ F9 td xd HK0.out Ha.out HED.out hxd⟩
          have t2 : (xd != 0) = true := by rw [bne_iff_ne]; exact hxd
          have t3 : (xd == 0) = false := by rw [beq_eq_false_iff_ne]; exact hxd
          clear hxd
          go_wp2_with (go_at_call 39; ((with_reducible refine (B9.out.done' HL.out (by omega) HED.out).mono ?_)); rintro en w40 ⟨rfl, hb, hl⟩; clear hc hzz; have hbx : w40.heap[w1.heap.size]? = some (.cells #[.int .i64 1, .string v1, .string ⟨#[]⟩, .string v2, .string v3, .int .i64 v4, .int .i64 v5, .int .i64 v6, .int .i64 v7, .int .i64 v8, .int .i64 v9, .int .i64 0, .int .i64 0, .slice none 0 0] 32 (0, 0)) := hb.box; have hc := fun i => blk_cell hbx i; have hrx := hb.res; have hrc := fun i => blk_cell hrx i; have hrz := fun i => blk_frozen hrx i; have BQ := Aside0.mk hb.res; have HLq := Aside0.mk hb.low; have BXq := Aside0.mk hb.box; have HSq := Aside0.mk hl; clear hb hbx hrx hl)
          refine bodyPost_ret (results_ctt rfl _ _ w.heap.size 32 #[.int .i64 0, .string ⟨#[]⟩, .string ⟨#[]⟩, .string ⟨#[]⟩, .string ⟨#[]⟩, .int .i64 0, .int .i64 0, .int .i64 0, .int .i64 0, .int .i64 0, .int .i64 0, .int .i64 0, .int .i64 0, .slice none 0 0] (0, 0) _ rfl (blk_fill14 BQ.out _ _ _ _ _ _ _ _ _ _ _ _ _ _) Tryz.underlying32 rfl (by kernel_rfl)) rfl ?_
          exact AskIs.mk_ (a := zAsk) (ok := fun _ => True) HD.out (Kd.R_nil _ _ _ _ _) (low_fill14 HLq.out _ _ _ _ _ _ _ _ _ _ _ _ _ _)
set_option maxRecDepth 100000 in
set_option maxHeartbeats 40000000 in
theorem ref12_dec_c (s : ByteArray) (w : World) (hs : s.size ≤ 140737488351232) (F : FormS) (x : Int) (hq : readB s = (some F, x)) (v : ByteArray) (hv : (F.vals 35).getD ⟨#[]⟩ = v) (hs1 : askKind v ≠ 1) :
    Calls Tryz.prog 13 #[.string s] w (AskIs (askD s) w) := by
  obtain ⟨hx, hF, h1, h35, hv35⟩ := readB_some hq
  subst hx
  have he0 : F.e = 0 := by rw [hF]; rfl
  have h8 : (fieldsB s)[0].f1 = v := by rw [← hv, hv35]; rfl
  have HZ : Aside0 (∀ y ∈ fieldsB s, y.f1.size ≤ 512) := ⟨fun y hy => (fieldsB_good s y hy).2.2⟩
  have HR := Aside0.mk (ref_read_walk s (w.alloc (.cells #[.int .i64 0, .string ⟨#[]⟩, .string ⟨#[]⟩, .string ⟨#[]⟩, .string ⟨#[]⟩, .int .i64 0, .int .i64 0, .int .i64 0, .int .i64 0, .int .i64 0, .int .i64 0, .int .i64 0, .int .i64 0, .slice none 0 0] 32)) hs)
  have hL : (fieldsB s).length ≤ 1000000 := by have := fieldsB_len s; omega
  rw [hq] at HR
  have BK0 := Aside0.mk (blk_new w (.cells #[.int .i64 0, .string ⟨#[]⟩, .string ⟨#[]⟩, .string ⟨#[]⟩, .string ⟨#[]⟩, .int .i64 0, .int .i64 0, .int .i64 0, .int .i64 0, .int .i64 0, .int .i64 0, .int .i64 0, .int .i64 0, .slice none 0 0] 32))
  have HB0 : Aside0 (Below w.heap.size w (w.alloc (.cells #[.int .i64 0, .string ⟨#[]⟩, .string ⟨#[]⟩, .string ⟨#[]⟩, .string ⟨#[]⟩, .int .i64 0, .int .i64 0, .int .i64 0, .int .i64 0, .int .i64 0, .int .i64 0, .int .i64 0, .int .i64 0, .slice none 0 0] 32))) := ⟨(Below.refl _ _).alloc (Nat.le_refl _) _⟩
  have hws : (w.alloc (.cells #[.int .i64 0, .string ⟨#[]⟩, .string ⟨#[]⟩, .string ⟨#[]⟩, .string ⟨#[]⟩, .int .i64 0, .int .i64 0, .int .i64 0, .int .i64 0, .int .i64 0, .int .i64 0, .int .i64 0, .int .i64 0, .slice none 0 0] 32)).heap.size = w.heap.size + 1 := World.size_alloc _ _
  obtain ⟨kd, hkd⟩ : ∃ k, askKind v = k := ⟨_, rfl⟩
  have HK1 : Aside0 (kd ≠ 1) := ⟨fun e => hs1 (hkd.trans e)⟩
  clear hs1
  have hk5 : kd ≤ 5 := hkd ▸ askKind_le v
  have HWd : Aside0 (∀ i : Nat, 1 ≤ i → i ≤ 5 → (askKindW (i : Int) = v ↔ kd = i)) := ⟨fun i h1 h5 => by
    have := askWord_kind v i h1 h5
    rwa [hkd] at this⟩
  have HD0 : Aside0 (kd = 0 → askD s = (zAsk, 35, 120)) := ⟨fun h => askD_zero hq hv (hkd.trans h)⟩
  have HDb : Aside0 (∀ a F' t e, kd ≠ 0 → takeA (kd : Nat) (F.mark 35) = (a, F') → doneL F' = (t, e) → e ≠ 0 → askD s = (zAsk, t, e)) := ⟨fun a F' t e h0 ha hd he => askD_undone hq hv hkd h0 ha hd he⟩
  have HDw : Aside0 (∀ a F' t e, kd ≠ 0 → takeA (kd : Nat) (F.mark 35) = (a, F') → (doneL F').2 = 0 → wholeA a = (t, e) → e ≠ 0 → askD s = (zAsk, t, e)) := ⟨fun a F' t e h0 ha hd hw he => askD_broken hq hv hkd h0 ha hd hw he⟩
  have HDg : Aside0 (∀ a F', kd ≠ 0 → takeA (kd : Nat) (F.mark 35) = (a, F') → (doneL F').2 = 0 → (wholeA a).2 = 0 → askD s = (a, 0, 0)) := ⟨fun a F' h0 ha hd hw => askD_good hq hv hkd h0 ha hd hw⟩
  have HKd := Aside0.mk hk5
  have HE0 := Aside0.mk he0
  clear hF hv35 h35 hq hkd hv he0
  generalize fieldsB s = L at *
  generalize askD s = res at *
  have HL := Aside0.mk hL
  have H8 := Aside0.mk h8
  clear hL h8
  go_enter Tryz.func13, Tryz.ntmps13
  go_wp2_with (first
    | (go_at_call 33; refine HR.out.mono ?_; rintro en w1 ⟨hb1, g, A, c, rfl, hf, hg⟩; rw [hws] at hg; have B0 := Aside0.mk (RefBox.start (w := w) (T := 32) (Z0 := #[.int .i64 0, .string ⟨#[]⟩, .string ⟨#[]⟩, .string ⟨#[]⟩, .string ⟨#[]⟩, .int .i64 0, .int .i64 0, .int .i64 0, .int .i64 0, .int .i64 0, .int .i64 0, .int .i64 0, .int .i64 0, .slice none 0 0]) hf (blk_below BK0.out hb1) (HB0.out.trans (hb1.mono HB0.out.size)) (by omega) (Nat.le_refl _)); clear hb1 hf hg HR BK0 HB0 hws)
    | (go_at_call 34; refine (B0.out.kind HL.out (by decide) h1 HE0.out H8.out).mono ?_; rintro en w2 ⟨rfl, hb⟩; have B1 := Aside0.mk hb; clear hb B0))
  go_loopw [9] (fun v9 wr => ∃ i : Nat, v9 = .int .i64 (i : Int) ∧ 1 ≤ i ∧ i ≤ 6 ∧ Aside0 (RefBox w (fun j => j < g ∨ j = w1.heap.size) g A c L w.heap.size w1.heap.size 32 #[.int .i64 0, .string ⟨#[]⟩, .string ⟨#[]⟩, .string ⟨#[]⟩, .string ⟨#[]⟩, .int .i64 0, .int .i64 0, .int .i64 0, .int .i64 0, .int .i64 0, .int .i64 0, .int .i64 0, .int .i64 0, .slice none 0 0] (F.mark 35) 1 #[.int .i64 (if kd < i then (kd : Int) else 0), .string ⟨#[]⟩, .string ⟨#[]⟩, .string ⟨#[]⟩, .string ⟨#[]⟩, .int .i64 0, .int .i64 0, .int .i64 0, .int .i64 0, .int .i64 0, .int .i64 0, .int .i64 0, .int .i64 0, .slice none 0 0] wr)) (fun v9 _ => 6 - (intOf v9).toNat)
  case atStart => exact ⟨1, rfl, Nat.le_refl _, by omega, ⟨by rw [show (if kd < 1 then (kd : Int) else 0) = 0 by split <;> omega]; exact B1.out⟩⟩
  case round =>
    clear B1
    obtain ⟨i, rfl, hi1, hi6, B⟩ := hrel
    by_cases hlt : i < 6
    · have hiff := HWd.out i hi1 (by omega)
      have k1 : decide ((i : Int) < 6) = true := by rw [decide_eq_true_eq]; omega
      have HWc : Aside0 (∀ W, Calls Tryz.prog 35 #[.int .i64 (i : Int)] W fun e w' => e = .returned (.string (askKindW (i : Int))) ∧ Below W.heap.size W w') := ⟨fun W => ref12_word_walk _ (by omega) W⟩
      generalize askKindW (i : Int) = r at *
      by_cases ce : kd = i
      · obtain rfl : r = v := hiff.2 ce
        have HN : Aside0 ((if kd < i + 1 then (kd : Int) else 0) = (i : Int)) := ⟨by rw [if_pos (by omega), ce]⟩
        clear hiff ce
        go_wp2_with (go_at_call 35; refine (HWc.out _).mono ?_; rintro en w3 ⟨rfl, hd⟩; have B2 := Aside0.mk (B.out.below_ hd); clear hd; have c0 : w3.cell? ⟨w1.heap.size, 0, none⟩ = some (.int .i64 (if kd < i then (kd : Int) else 0)) := blk_cell B2.out.box 0; have z0 := blk_frozen B2.out.box 0)
        refine ⟨⟨i + 1, by rw [show ((i + 1 : Nat) : Int) = (i : Int) + 1 by omega], by omega, by omega, ⟨by rw [HN.out]; exact B2.out.set 0 (.int .i64 (i : Int))⟩⟩, ?_⟩
        show 6 - ((i : Int) + 1).toNat < 6 - ((i : Int)).toNat
        omega
      · have hne : ¬ r = v := fun g => ce (hiff.1 g)
        have n1 : (r.toList == v.toList) = false := by
          rw [ByteArray.toList_eq, ByteArray.toList_eq, beq_eq_false_iff_ne]
          exact fun e => hne (ba_ext e)
        have HN : Aside0 ((if kd < i + 1 then (kd : Int) else 0) = (if kd < i then (kd : Int) else 0)) := ⟨by
          by_cases q : kd < i
          · rw [if_pos q, if_pos (by omega)]
          · rw [if_neg q, if_neg (by omega)]⟩
        clear hiff ce hne
        go_wp2_with (go_at_call 35; refine (HWc.out _).mono ?_; rintro en w3 ⟨rfl, hd⟩; have B2 := Aside0.mk (B.out.below_ hd); clear hd)
        refine ⟨⟨i + 1, by rw [show ((i + 1 : Nat) : Int) = (i : Int) + 1 by omega], by omega, by omega, ⟨by rw [HN.out]; exact B2.out⟩⟩, ?_⟩
        show 6 - ((i : Int) + 1).toNat < 6 - ((i : Int)).toNat
        omega
    · have k1 : decide ((i : Int) < 6) = false := by rw [decide_eq_false_iff_not]; omega
      have hi : i = 6 := by omega
      subst hi
      have B0 : Aside0 (RefBox w (fun j => j < g ∨ j = w1.heap.size) g A c L w.heap.size w1.heap.size 32 #[.int .i64 0, .string ⟨#[]⟩, .string ⟨#[]⟩, .string ⟨#[]⟩, .string ⟨#[]⟩, .int .i64 0, .int .i64 0, .int .i64 0, .int .i64 0, .int .i64 0, .int .i64 0, .int .i64 0, .int .i64 0, .slice none 0 0] (F.mark 35) 1 #[.int .i64 (kd : Int), .string ⟨#[]⟩, .string ⟨#[]⟩, .string ⟨#[]⟩, .string ⟨#[]⟩, .int .i64 0, .int .i64 0, .int .i64 0, .int .i64 0, .int .i64 0, .int .i64 0, .int .i64 0, .int .i64 0, .slice none 0 0] wr) := ⟨by have := B.out; rwa [if_pos (by have := HKd.out; omega)] at this⟩
      clear B H8
      by_cases ck : kd = 0
      · have HD := Aside0.mk (HD0.out ck)
        have t1 : ((kd : Int) == 0) = true := by rw [ck]; rfl
        have hbox : wr.heap[w1.heap.size]? = some (.cells #[.int .i64 (kd : Int), .string ⟨#[]⟩, .string ⟨#[]⟩, .string ⟨#[]⟩, .string ⟨#[]⟩, .int .i64 0, .int .i64 0, .int .i64 0, .int .i64 0, .int .i64 0, .int .i64 0, .int .i64 0, .int .i64 0, .slice none 0 0] 32 (0, 0)) := B0.out.box
        have hcr := fun i => blk_cell hbox i
        have hrx := B0.out.res
        have hrc := fun i => blk_cell hrx i
        have hrz := fun i => blk_frozen hrx i
        have BK := Aside0.mk B0.out.res
        have HLow := Aside0.mk B0.out.low
        clear hbox ck hrx
        go_wp2
        refine bodyPost_ret (results_ctt rfl _ _ w.heap.size 32 #[.int .i64 0, .string ⟨#[]⟩, .string ⟨#[]⟩, .string ⟨#[]⟩, .string ⟨#[]⟩, .int .i64 0, .int .i64 0, .int .i64 0, .int .i64 0, .int .i64 0, .int .i64 0, .int .i64 0, .int .i64 0, .slice none 0 0] (0, 0) _ rfl (blk_fill14 BK.out _ _ _ _ _ _ _ _ _ _ _ _ _ _) Tryz.underlying32 rfl (by kernel_rfl)) rfl ?_
        exact AskIs.mk_ (a := zAsk) (ok := fun _ => True) HD.out (Kd.R_nil _ _ _ _ _) (low_fill14 HLow.out _ _ _ _ _ _ _ _ _ _ _ _ _ _)
      have t0 : ((kd : Int) == 0) = false := by rw [beq_eq_false_iff_ne]; have := HK1.out; omega
      have hbx0 : wr.heap[w1.heap.size]? = some (.cells #[.int .i64 (kd : Int), .string ⟨#[]⟩, .string ⟨#[]⟩, .string ⟨#[]⟩, .string ⟨#[]⟩, .int .i64 0, .int .i64 0, .int .i64 0, .int .i64 0, .int .i64 0, .int .i64 0, .int .i64 0, .int .i64 0, .slice none 0 0] 32 (0, 0)) := B0.out.box
      by_cases k3' : kd = 3
      · subst k3'
        obtain ⟨v1, F1, E1⟩ : ∃ v F', askL takeName ⟨#[]⟩ (F.mark 35) 11 = (v, F') := ⟨_, _, rfl⟩
        obtain ⟨v2, F2, E2⟩ : ∃ v F', askL takeName ⟨#[]⟩ F1 41 = (v, F') := ⟨_, _, rfl⟩
        obtain ⟨v3, F3, E3⟩ : ∃ v F', askL (fun s => takeInt s 1 1099511627776) 0 F2 38 = (v, F') := ⟨_, _, rfl⟩
        obtain ⟨v4, F4, E4⟩ : ∃ v F', askL (fun s => takeInt s 1 1099511627776) 0 F3 44 = (v, F') := ⟨_, _, rfl⟩
        obtain ⟨v5, F5, E5⟩ : ∃ v F', askL (fun s => takeInt s 0 1099511627776) 0 F4 5003 = (v, F') := ⟨_, _, rfl⟩
        have ha : takeA ((3 : Nat) : Int) (F.mark 35) = (⟨3, v1, v2, ⟨#[]⟩, ⟨#[]⟩, 0, v3, v4, 0, 0, v5, 0, 0, []⟩, F5) := by
          show takeA 3 (F.mark 35) = _
          unfold takeA
          rw [if_neg (by decide), if_pos rfl, show askAmend = [.name 11, .name 41, .int 38 1 1099511627776, .int 44 1 1099511627776, .int 5003 0 1099511627776] from rfl, asksT_name E1, asksT_name E2, asksT_int E3, asksT_int E4, asksT_int E5]; rfl
        have HK0 := Aside0.mk (show (3 : Nat) ≠ 0 by decide)
        clear ck k1
        obtain ⟨td, xd, ED⟩ : ∃ t x, doneL F5 = (t, x) := ⟨_, _, rfl⟩
        obtain ⟨tw, xw, EW⟩ : ∃ t x, wholeA ⟨3, v1, v2, ⟨#[]⟩, ⟨#[]⟩, 0, v3, v4, 0, 0, v5, 0, 0, []⟩ = (t, x) := ⟨_, _, rfl⟩
        have HED := Aside0.mk ED
        have HWf : Aside0 (∀ W, Calls Tryz.prog 27 #[.agg #[.int .i64 3, .string v1, .string v2, .string ⟨#[]⟩, .string ⟨#[]⟩, .int .i64 0, .int .i64 v3, .int .i64 v4, .int .i64 0, .int .i64 0, .int .i64 v5, .int .i64 0, .int .i64 0, .slice none 0 0]] W fun e w' => e = .returned (.tuple #[.int .i64 tw, .int .i64 xw]) ∧ Below W.heap.size W w') := ⟨fun W => spigotref12_Whole.calls 67 _ _ _ _ _ _ _ _ _ _ _ _ _ none 0 [] tw xw W (Kd.R_reads' (Kd.R_nil (Kd.int .i64) 0 W 0 (fun _ => True))).2.2 (Nat.zero_le _) (by rw [← EW]; exact ref_whole_f ⟨3, v1, v2, ⟨#[]⟩, ⟨#[]⟩, 0, v3, v4, 0, 0, v5, 0, 0, []⟩)⟩
        have B0 : Aside0 (RefBox w (fun j => j < g ∨ j = w1.heap.size) g A c L w.heap.size w1.heap.size 32 #[.int .i64 0, .string ⟨#[]⟩, .string ⟨#[]⟩, .string ⟨#[]⟩, .string ⟨#[]⟩, .int .i64 0, .int .i64 0, .int .i64 0, .int .i64 0, .int .i64 0, .int .i64 0, .int .i64 0, .int .i64 0, .slice none 0 0] (F.mark 35) 1 #[.int .i64 3, .string ⟨#[]⟩, .string ⟨#[]⟩, .string ⟨#[]⟩, .string ⟨#[]⟩, .int .i64 0, .int .i64 0, .int .i64 0, .int .i64 0, .int .i64 0, .int .i64 0, .int .i64 0, .int .i64 0, .slice none 0 0] wr) := ⟨B0.out⟩
        have HE1 := Aside0.mk E1
        have HE2 := Aside0.mk E2
        have HE3 := Aside0.mk E3
        have HE4 := Aside0.mk E4
        have HE5 := Aside0.mk E5
        have hbx : wr.heap[w1.heap.size]? = some (.cells #[.int .i64 3, .string ⟨#[]⟩, .string ⟨#[]⟩, .string ⟨#[]⟩, .string ⟨#[]⟩, .int .i64 0, .int .i64 0, .int .i64 0, .int .i64 0, .int .i64 0, .int .i64 0, .int .i64 0, .int .i64 0, .slice none 0 0] 32 (0, 0)) := B0.out.box
        have hc := fun i => blk_cell hbx i
        have hzz := fun i => blk_frozen hbx i
        have Ha := Aside0.mk ha
        have HEW := Aside0.mk EW
        clear ha EW ED hbx hbx0 E1 E2 E3 E4 E5 HD0 HWd
        go_wp2_with (first
          | (go_at_call 36; ((with_reducible refine (B0.out.name HE1.out HL.out (by omega) HZ.out).mono ?_)); rintro en w21 ⟨rfl, hb⟩; (try clear hc hzz); have hbx : w21.heap[w1.heap.size]? = some (.cells #[.int .i64 3, .string ⟨#[]⟩, .string ⟨#[]⟩, .string ⟨#[]⟩, .string ⟨#[]⟩, .int .i64 0, .int .i64 0, .int .i64 0, .int .i64 0, .int .i64 0, .int .i64 0, .int .i64 0, .int .i64 0, .slice none 0 0] 32 (0, 0)) := hb.box; have hc := fun i => blk_cell hbx i; have hzz := fun i => blk_frozen hbx i; have B1 : Aside0 (RefBox w _ g A c L w.heap.size w1.heap.size 32 #[.int .i64 0, .string ⟨#[]⟩, .string ⟨#[]⟩, .string ⟨#[]⟩, .string ⟨#[]⟩, .int .i64 0, .int .i64 0, .int .i64 0, .int .i64 0, .int .i64 0, .int .i64 0, .int .i64 0, .int .i64 0, .slice none 0 0] F1 _ #[.int .i64 3, .string v1, .string ⟨#[]⟩, .string ⟨#[]⟩, .string ⟨#[]⟩, .int .i64 0, .int .i64 0, .int .i64 0, .int .i64 0, .int .i64 0, .int .i64 0, .int .i64 0, .int .i64 0, .slice none 0 0] _) := ⟨hb.set 1 (.string v1)⟩; clear hbx hb B0)
          | (go_at_call 36; ((with_reducible refine (B1.out.name HE2.out HL.out (by omega) HZ.out).mono ?_)); rintro en w22 ⟨rfl, hb⟩; (try clear hc hzz); have hbx : w22.heap[w1.heap.size]? = some (.cells #[.int .i64 3, .string v1, .string ⟨#[]⟩, .string ⟨#[]⟩, .string ⟨#[]⟩, .int .i64 0, .int .i64 0, .int .i64 0, .int .i64 0, .int .i64 0, .int .i64 0, .int .i64 0, .int .i64 0, .slice none 0 0] 32 (0, 0)) := hb.box; have hc := fun i => blk_cell hbx i; have hzz := fun i => blk_frozen hbx i; have B2 : Aside0 (RefBox w _ g A c L w.heap.size w1.heap.size 32 #[.int .i64 0, .string ⟨#[]⟩, .string ⟨#[]⟩, .string ⟨#[]⟩, .string ⟨#[]⟩, .int .i64 0, .int .i64 0, .int .i64 0, .int .i64 0, .int .i64 0, .int .i64 0, .int .i64 0, .int .i64 0, .slice none 0 0] F2 _ #[.int .i64 3, .string v1, .string v2, .string ⟨#[]⟩, .string ⟨#[]⟩, .int .i64 0, .int .i64 0, .int .i64 0, .int .i64 0, .int .i64 0, .int .i64 0, .int .i64 0, .int .i64 0, .slice none 0 0] _) := ⟨hb.set 2 (.string v2)⟩; clear hbx hb B1)
          | (go_at_call 37; ((with_reducible refine (B2.out.int HE3.out HL.out (by omega) HZ.out).mono ?_)); rintro en w23 ⟨rfl, hb⟩; (try clear hc hzz); have hbx : w23.heap[w1.heap.size]? = some (.cells #[.int .i64 3, .string v1, .string v2, .string ⟨#[]⟩, .string ⟨#[]⟩, .int .i64 0, .int .i64 0, .int .i64 0, .int .i64 0, .int .i64 0, .int .i64 0, .int .i64 0, .int .i64 0, .slice none 0 0] 32 (0, 0)) := hb.box; have hc := fun i => blk_cell hbx i; have hzz := fun i => blk_frozen hbx i; have B3 : Aside0 (RefBox w _ g A c L w.heap.size w1.heap.size 32 #[.int .i64 0, .string ⟨#[]⟩, .string ⟨#[]⟩, .string ⟨#[]⟩, .string ⟨#[]⟩, .int .i64 0, .int .i64 0, .int .i64 0, .int .i64 0, .int .i64 0, .int .i64 0, .int .i64 0, .int .i64 0, .slice none 0 0] F3 _ #[.int .i64 3, .string v1, .string v2, .string ⟨#[]⟩, .string ⟨#[]⟩, .int .i64 0, .int .i64 v3, .int .i64 0, .int .i64 0, .int .i64 0, .int .i64 0, .int .i64 0, .int .i64 0, .slice none 0 0] _) := ⟨hb.set 6 (.int .i64 v3)⟩; clear hbx hb B2)
          | (go_at_call 37; ((with_reducible refine (B3.out.int HE4.out HL.out (by omega) HZ.out).mono ?_)); rintro en w24 ⟨rfl, hb⟩; (try clear hc hzz); have hbx : w24.heap[w1.heap.size]? = some (.cells #[.int .i64 3, .string v1, .string v2, .string ⟨#[]⟩, .string ⟨#[]⟩, .int .i64 0, .int .i64 v3, .int .i64 0, .int .i64 0, .int .i64 0, .int .i64 0, .int .i64 0, .int .i64 0, .slice none 0 0] 32 (0, 0)) := hb.box; have hc := fun i => blk_cell hbx i; have hzz := fun i => blk_frozen hbx i; have B4 : Aside0 (RefBox w _ g A c L w.heap.size w1.heap.size 32 #[.int .i64 0, .string ⟨#[]⟩, .string ⟨#[]⟩, .string ⟨#[]⟩, .string ⟨#[]⟩, .int .i64 0, .int .i64 0, .int .i64 0, .int .i64 0, .int .i64 0, .int .i64 0, .int .i64 0, .int .i64 0, .slice none 0 0] F4 _ #[.int .i64 3, .string v1, .string v2, .string ⟨#[]⟩, .string ⟨#[]⟩, .int .i64 0, .int .i64 v3, .int .i64 v4, .int .i64 0, .int .i64 0, .int .i64 0, .int .i64 0, .int .i64 0, .slice none 0 0] _) := ⟨hb.set 7 (.int .i64 v4)⟩; clear hbx hb B3)
          | (go_at_call 37; ((with_reducible refine (B4.out.int HE5.out HL.out (by omega) HZ.out).mono ?_)); rintro en w25 ⟨rfl, hb⟩; (try clear hc hzz); have hbx : w25.heap[w1.heap.size]? = some (.cells #[.int .i64 3, .string v1, .string v2, .string ⟨#[]⟩, .string ⟨#[]⟩, .int .i64 0, .int .i64 v3, .int .i64 v4, .int .i64 0, .int .i64 0, .int .i64 0, .int .i64 0, .int .i64 0, .slice none 0 0] 32 (0, 0)) := hb.box; have hc := fun i => blk_cell hbx i; have hzz := fun i => blk_frozen hbx i; have B5 : Aside0 (RefBox w _ g A c L w.heap.size w1.heap.size 32 #[.int .i64 0, .string ⟨#[]⟩, .string ⟨#[]⟩, .string ⟨#[]⟩, .string ⟨#[]⟩, .int .i64 0, .int .i64 0, .int .i64 0, .int .i64 0, .int .i64 0, .int .i64 0, .int .i64 0, .int .i64 0, .slice none 0 0] F5 _ #[.int .i64 3, .string v1, .string v2, .string ⟨#[]⟩, .string ⟨#[]⟩, .int .i64 0, .int .i64 v3, .int .i64 v4, .int .i64 0, .int .i64 0, .int .i64 v5, .int .i64 0, .int .i64 0, .slice none 0 0] _) := ⟨hb.set 10 (.int .i64 v5)⟩; clear hbx hb B4))
        by_cases hxd : xd = 0
        · subst hxd
          by_cases hxw : xw = 0
          · subst hxw
            have HD : Aside0 (res = (⟨3, v1, v2, ⟨#[]⟩, ⟨#[]⟩, 0, v3, v4, 0, 0, v5, 0, 0, []⟩, 0, 0)) := ⟨HDg.out _ F5 HK0.out Ha.out (by rw [HED.out]) (by rw [HEW.out])⟩
            go_wp2_with (first
              | (go_at_call 39; ((with_reducible refine (B5.out.done' HL.out (by omega) HED.out).mono ?_)); rintro en w40 ⟨rfl, hb, hl⟩; clear hc hzz; have hbx : w40.heap[w1.heap.size]? = some (.cells #[.int .i64 3, .string v1, .string v2, .string ⟨#[]⟩, .string ⟨#[]⟩, .int .i64 0, .int .i64 v3, .int .i64 v4, .int .i64 0, .int .i64 0, .int .i64 v5, .int .i64 0, .int .i64 0, .slice none 0 0] 32 (0, 0)) := hb.box; have hc := fun i => blk_cell hbx i; have hrx := hb.res; have hrc := fun i => blk_cell hrx i; have hrz := fun i => blk_frozen hrx i; have BQ := Aside0.mk hb.res; have HLq := Aside0.mk hb.low; have BXq := Aside0.mk hb.box; have HSq := Aside0.mk hl; clear hb hbx hrx hl)
              | (go_at_call 27; ((with_reducible refine (HWf.out _).mono ?_)); rintro en w41 ⟨rfl, hb⟩; clear hc hrc hrz; have BK := Aside0.mk (blk_below BQ.out hb); have hrc := fun i => blk_cell BK.out i; have hrz := fun i => blk_frozen BK.out i; have BY := Aside0.mk (blk_below BXq.out hb); have hbx : w41.heap[w1.heap.size]? = some (.cells #[.int .i64 3, .string v1, .string v2, .string ⟨#[]⟩, .string ⟨#[]⟩, .int .i64 0, .int .i64 v3, .int .i64 v4, .int .i64 0, .int .i64 0, .int .i64 v5, .int .i64 0, .int .i64 0, .slice none 0 0] 32 (0, 0)) := BY.out; have hc := fun i => blk_cell hbx i; have HLow := Aside0.mk (HLq.out.trans (hb.mono HLq.out.size)); clear hb hbx))
            refine bodyPost_ret (results_ctt rfl _ _ w.heap.size 32 #[.int .i64 3, .string v1, .string v2, .string ⟨#[]⟩, .string ⟨#[]⟩, .int .i64 0, .int .i64 v3, .int .i64 v4, .int .i64 0, .int .i64 0, .int .i64 v5, .int .i64 0, .int .i64 0, .slice none 0 0] (0, 0) _ rfl (blk_fill14 BK.out _ _ _ _ _ _ _ _ _ _ _ _ _ _) Tryz.underlying32 rfl (by kernel_rfl)) rfl ?_
            exact AskIs.mk_ (a := ⟨3, v1, v2, ⟨#[]⟩, ⟨#[]⟩, 0, v3, v4, 0, 0, v5, 0, 0, []⟩) (ok := fun _ => True) HD.out (Kd.R_nil _ _ _ _ _) (low_fill14 HLow.out _ _ _ _ _ _ _ _ _ _ _ _ _ _)
          · have HD : Aside0 (res = (zAsk, tw, xw)) := ⟨HDw.out _ F5 tw xw HK0.out Ha.out (by rw [HED.out]) HEW.out hxw⟩
            have t2 : (xw != 0) = true := by rw [bne_iff_ne]; exact hxw
            clear hxw
            go_wp2_with (first
              | (go_at_call 39; ((with_reducible refine (B5.out.done' HL.out (by omega) HED.out).mono ?_)); rintro en w40 ⟨rfl, hb, hl⟩; clear hc hzz; have hbx : w40.heap[w1.heap.size]? = some (.cells #[.int .i64 3, .string v1, .string v2, .string ⟨#[]⟩, .string ⟨#[]⟩, .int .i64 0, .int .i64 v3, .int .i64 v4, .int .i64 0, .int .i64 0, .int .i64 v5, .int .i64 0, .int .i64 0, .slice none 0 0] 32 (0, 0)) := hb.box; have hc := fun i => blk_cell hbx i; have hrx := hb.res; have hrc := fun i => blk_cell hrx i; have hrz := fun i => blk_frozen hrx i; have BQ := Aside0.mk hb.res; have HLq := Aside0.mk hb.low; have BXq := Aside0.mk hb.box; have HSq := Aside0.mk hl; clear hb hbx hrx hl)
              | (go_at_call 27; ((with_reducible refine (HWf.out _).mono ?_)); rintro en w41 ⟨rfl, hb⟩; clear hc hrc hrz; have BK := Aside0.mk (blk_below BQ.out hb); have hrc := fun i => blk_cell BK.out i; have hrz := fun i => blk_frozen BK.out i; have BY := Aside0.mk (blk_below BXq.out hb); have hbx : w41.heap[w1.heap.size]? = some (.cells #[.int .i64 3, .string v1, .string v2, .string ⟨#[]⟩, .string ⟨#[]⟩, .int .i64 0, .int .i64 v3, .int .i64 v4, .int .i64 0, .int .i64 0, .int .i64 v5, .int .i64 0, .int .i64 0, .slice none 0 0] 32 (0, 0)) := BY.out; have hc := fun i => blk_cell hbx i; have HLow := Aside0.mk (HLq.out.trans (hb.mono HLq.out.size)); clear hb hbx))
            refine bodyPost_ret (results_ctt rfl _ _ w.heap.size 32 #[.int .i64 0, .string ⟨#[]⟩, .string ⟨#[]⟩, .string ⟨#[]⟩, .string ⟨#[]⟩, .int .i64 0, .int .i64 0, .int .i64 0, .int .i64 0, .int .i64 0, .int .i64 0, .int .i64 0, .int .i64 0, .slice none 0 0] (0, 0) _ rfl (blk_fill14 BK.out _ _ _ _ _ _ _ _ _ _ _ _ _ _) Tryz.underlying32 rfl (by kernel_rfl)) rfl ?_
            exact AskIs.mk_ (a := zAsk) (ok := fun _ => True) HD.out (Kd.R_nil _ _ _ _ _) (low_fill14 HLow.out _ _ _ _ _ _ _ _ _ _ _ _ _ _)
        · have HD : Aside0 (res = (zAsk, td, xd)) := ⟨HDb.out _ F5 td xd HK0.out Ha.out HED.out hxd⟩
          have t2 : (xd != 0) = true := by rw [bne_iff_ne]; exact hxd
          have t3 : (xd == 0) = false := by rw [beq_eq_false_iff_ne]; exact hxd
          clear hxd
          go_wp2_with (go_at_call 39; ((with_reducible refine (B5.out.done' HL.out (by omega) HED.out).mono ?_)); rintro en w40 ⟨rfl, hb, hl⟩; clear hc hzz; have hbx : w40.heap[w1.heap.size]? = some (.cells #[.int .i64 3, .string v1, .string v2, .string ⟨#[]⟩, .string ⟨#[]⟩, .int .i64 0, .int .i64 v3, .int .i64 v4, .int .i64 0, .int .i64 0, .int .i64 v5, .int .i64 0, .int .i64 0, .slice none 0 0] 32 (0, 0)) := hb.box; have hc := fun i => blk_cell hbx i; have hrx := hb.res; have hrc := fun i => blk_cell hrx i; have hrz := fun i => blk_frozen hrx i; have BQ := Aside0.mk hb.res; have HLq := Aside0.mk hb.low; have BXq := Aside0.mk hb.box; have HSq := Aside0.mk hl; clear hb hbx hrx hl)
          refine bodyPost_ret (results_ctt rfl _ _ w.heap.size 32 #[.int .i64 0, .string ⟨#[]⟩, .string ⟨#[]⟩, .string ⟨#[]⟩, .string ⟨#[]⟩, .int .i64 0, .int .i64 0, .int .i64 0, .int .i64 0, .int .i64 0, .int .i64 0, .int .i64 0, .int .i64 0, .slice none 0 0] (0, 0) _ rfl (blk_fill14 BQ.out _ _ _ _ _ _ _ _ _ _ _ _ _ _) Tryz.underlying32 rfl (by kernel_rfl)) rfl ?_
          exact AskIs.mk_ (a := zAsk) (ok := fun _ => True) HD.out (Kd.R_nil _ _ _ _ _) (low_fill14 HLq.out _ _ _ _ _ _ _ _ _ _ _ _ _ _)
      obtain ⟨v1, F1, E1⟩ : ∃ v F', askL takeName ⟨#[]⟩ (F.mark 35) 11 = (v, F') := ⟨_, _, rfl⟩
      obtain ⟨v2, F2, E2⟩ : ∃ v F', askL takeName ⟨#[]⟩ F1 41 = (v, F') := ⟨_, _, rfl⟩
      have k1' := HK1.out
      have y1 : ((kd : Int) == 1) = false := beq_eq_false_iff_ne.2 (by omega)
      have y3 : ((kd : Int) == 3) = false := beq_eq_false_iff_ne.2 (by omega)
      have ha : takeA (kd : Int) (F.mark 35) = (⟨(kd : Int), v1, v2, ⟨#[]⟩, ⟨#[]⟩, 0, 0, 0, 0, 0, 0, 0, 0, []⟩, F2) := by
        unfold takeA
        rw [if_neg (by omega), if_neg (by omega), show askBare = [.name 11, .name 41] from rfl, asksT_name E1, asksT_name E2]; rfl
      have HK0 := Aside0.mk ck
      clear ck k1 k1' k3'
      obtain ⟨td, xd, ED⟩ : ∃ t x, doneL F2 = (t, x) := ⟨_, _, rfl⟩
      obtain ⟨tw, xw, EW⟩ : ∃ t x, wholeA ⟨(kd : Int), v1, v2, ⟨#[]⟩, ⟨#[]⟩, 0, 0, 0, 0, 0, 0, 0, 0, []⟩ = (t, x) := ⟨_, _, rfl⟩
      have HED := Aside0.mk ED
      have HWf : Aside0 (∀ W, Calls Tryz.prog 27 #[.agg #[.int .i64 (kd : Int), .string v1, .string v2, .string ⟨#[]⟩, .string ⟨#[]⟩, .int .i64 0, .int .i64 0, .int .i64 0, .int .i64 0, .int .i64 0, .int .i64 0, .int .i64 0, .int .i64 0, .slice none 0 0]] W fun e w' => e = .returned (.tuple #[.int .i64 tw, .int .i64 xw]) ∧ Below W.heap.size W w') := ⟨fun W => spigotref12_Whole.calls 67 _ _ _ _ _ _ _ _ _ _ _ _ _ none 0 [] tw xw W (Kd.R_reads' (Kd.R_nil (Kd.int .i64) 0 W 0 (fun _ => True))).2.2 (Nat.zero_le _) (by rw [← EW]; exact ref_whole_f ⟨(kd : Int), v1, v2, ⟨#[]⟩, ⟨#[]⟩, 0, 0, 0, 0, 0, 0, 0, 0, []⟩)⟩
      have B0 : Aside0 (RefBox w (fun j => j < g ∨ j = w1.heap.size) g A c L w.heap.size w1.heap.size 32 #[.int .i64 0, .string ⟨#[]⟩, .string ⟨#[]⟩, .string ⟨#[]⟩, .string ⟨#[]⟩, .int .i64 0, .int .i64 0, .int .i64 0, .int .i64 0, .int .i64 0, .int .i64 0, .int .i64 0, .int .i64 0, .slice none 0 0] (F.mark 35) 1 #[.int .i64 (kd : Int), .string ⟨#[]⟩, .string ⟨#[]⟩, .string ⟨#[]⟩, .string ⟨#[]⟩, .int .i64 0, .int .i64 0, .int .i64 0, .int .i64 0, .int .i64 0, .int .i64 0, .int .i64 0, .int .i64 0, .slice none 0 0] wr) := ⟨B0.out⟩
      have HE1 := Aside0.mk E1
      have HE2 := Aside0.mk E2
      have hbx : wr.heap[w1.heap.size]? = some (.cells #[.int .i64 (kd : Int), .string ⟨#[]⟩, .string ⟨#[]⟩, .string ⟨#[]⟩, .string ⟨#[]⟩, .int .i64 0, .int .i64 0, .int .i64 0, .int .i64 0, .int .i64 0, .int .i64 0, .int .i64 0, .int .i64 0, .slice none 0 0] 32 (0, 0)) := B0.out.box
      have hc := fun i => blk_cell hbx i
      have hzz := fun i => blk_frozen hbx i
      have Ha := Aside0.mk ha
      have HEW := Aside0.mk EW
      clear ha EW ED hbx hbx0 E1 E2 HD0 HWd
      go_wp2_with (first
        | (go_at_call 36; ((with_reducible refine (B0.out.name HE1.out HL.out (by omega) HZ.out).mono ?_)); rintro en w21 ⟨rfl, hb⟩; (try clear hc hzz); have hbx : w21.heap[w1.heap.size]? = some (.cells #[.int .i64 (kd : Int), .string ⟨#[]⟩, .string ⟨#[]⟩, .string ⟨#[]⟩, .string ⟨#[]⟩, .int .i64 0, .int .i64 0, .int .i64 0, .int .i64 0, .int .i64 0, .int .i64 0, .int .i64 0, .int .i64 0, .slice none 0 0] 32 (0, 0)) := hb.box; have hc := fun i => blk_cell hbx i; have hzz := fun i => blk_frozen hbx i; have B1 : Aside0 (RefBox w _ g A c L w.heap.size w1.heap.size 32 #[.int .i64 0, .string ⟨#[]⟩, .string ⟨#[]⟩, .string ⟨#[]⟩, .string ⟨#[]⟩, .int .i64 0, .int .i64 0, .int .i64 0, .int .i64 0, .int .i64 0, .int .i64 0, .int .i64 0, .int .i64 0, .slice none 0 0] F1 _ #[.int .i64 (kd : Int), .string v1, .string ⟨#[]⟩, .string ⟨#[]⟩, .string ⟨#[]⟩, .int .i64 0, .int .i64 0, .int .i64 0, .int .i64 0, .int .i64 0, .int .i64 0, .int .i64 0, .int .i64 0, .slice none 0 0] _) := ⟨hb.set 1 (.string v1)⟩; clear hbx hb B0)
        | (go_at_call 36; ((with_reducible refine (B1.out.name HE2.out HL.out (by omega) HZ.out).mono ?_)); rintro en w22 ⟨rfl, hb⟩; (try clear hc hzz); have hbx : w22.heap[w1.heap.size]? = some (.cells #[.int .i64 (kd : Int), .string v1, .string ⟨#[]⟩, .string ⟨#[]⟩, .string ⟨#[]⟩, .int .i64 0, .int .i64 0, .int .i64 0, .int .i64 0, .int .i64 0, .int .i64 0, .int .i64 0, .int .i64 0, .slice none 0 0] 32 (0, 0)) := hb.box; have hc := fun i => blk_cell hbx i; have hzz := fun i => blk_frozen hbx i; have B2 : Aside0 (RefBox w _ g A c L w.heap.size w1.heap.size 32 #[.int .i64 0, .string ⟨#[]⟩, .string ⟨#[]⟩, .string ⟨#[]⟩, .string ⟨#[]⟩, .int .i64 0, .int .i64 0, .int .i64 0, .int .i64 0, .int .i64 0, .int .i64 0, .int .i64 0, .int .i64 0, .slice none 0 0] F2 _ #[.int .i64 (kd : Int), .string v1, .string v2, .string ⟨#[]⟩, .string ⟨#[]⟩, .int .i64 0, .int .i64 0, .int .i64 0, .int .i64 0, .int .i64 0, .int .i64 0, .int .i64 0, .int .i64 0, .slice none 0 0] _) := ⟨hb.set 2 (.string v2)⟩; clear hbx hb B1))
      by_cases hxd : xd = 0
      · subst hxd
        by_cases hxw : xw = 0
        · subst hxw
          have HD : Aside0 (res = (⟨(kd : Int), v1, v2, ⟨#[]⟩, ⟨#[]⟩, 0, 0, 0, 0, 0, 0, 0, 0, []⟩, 0, 0)) := ⟨HDg.out _ F2 HK0.out Ha.out (by rw [HED.out]) (by rw [HEW.out])⟩
          go_wp2_with (first
            | (go_at_call 39; ((with_reducible refine (B2.out.done' HL.out (by omega) HED.out).mono ?_)); rintro en w40 ⟨rfl, hb, hl⟩; clear hc hzz; have hbx : w40.heap[w1.heap.size]? = some (.cells #[.int .i64 (kd : Int), .string v1, .string v2, .string ⟨#[]⟩, .string ⟨#[]⟩, .int .i64 0, .int .i64 0, .int .i64 0, .int .i64 0, .int .i64 0, .int .i64 0, .int .i64 0, .int .i64 0, .slice none 0 0] 32 (0, 0)) := hb.box; have hc := fun i => blk_cell hbx i; have hrx := hb.res; have hrc := fun i => blk_cell hrx i; have hrz := fun i => blk_frozen hrx i; have BQ := Aside0.mk hb.res; have HLq := Aside0.mk hb.low; have BXq := Aside0.mk hb.box; have HSq := Aside0.mk hl; clear hb hbx hrx hl)
            | (go_at_call 27; ((with_reducible refine (HWf.out _).mono ?_)); rintro en w41 ⟨rfl, hb⟩; clear hc hrc hrz; have BK := Aside0.mk (blk_below BQ.out hb); have hrc := fun i => blk_cell BK.out i; have hrz := fun i => blk_frozen BK.out i; have BY := Aside0.mk (blk_below BXq.out hb); have hbx : w41.heap[w1.heap.size]? = some (.cells #[.int .i64 (kd : Int), .string v1, .string v2, .string ⟨#[]⟩, .string ⟨#[]⟩, .int .i64 0, .int .i64 0, .int .i64 0, .int .i64 0, .int .i64 0, .int .i64 0, .int .i64 0, .int .i64 0, .slice none 0 0] 32 (0, 0)) := BY.out; have hc := fun i => blk_cell hbx i; have HLow := Aside0.mk (HLq.out.trans (hb.mono HLq.out.size)); clear hb hbx))
          refine bodyPost_ret (results_ctt rfl _ _ w.heap.size 32 #[.int .i64 (kd : Int), .string v1, .string v2, .string ⟨#[]⟩, .string ⟨#[]⟩, .int .i64 0, .int .i64 0, .int .i64 0, .int .i64 0, .int .i64 0, .int .i64 0, .int .i64 0, .int .i64 0, .slice none 0 0] (0, 0) _ rfl (blk_fill14 BK.out _ _ _ _ _ _ _ _ _ _ _ _ _ _) Tryz.underlying32 rfl (by kernel_rfl)) rfl ?_
          exact AskIs.mk_ (a := ⟨(kd : Int), v1, v2, ⟨#[]⟩, ⟨#[]⟩, 0, 0, 0, 0, 0, 0, 0, 0, []⟩) (ok := fun _ => True) HD.out (Kd.R_nil _ _ _ _ _) (low_fill14 HLow.out _ _ _ _ _ _ _ _ _ _ _ _ _ _)
        · have HD : Aside0 (res = (zAsk, tw, xw)) := ⟨HDw.out _ F2 tw xw HK0.out Ha.out (by rw [HED.out]) HEW.out hxw⟩
          have t2 : (xw != 0) = true := by rw [bne_iff_ne]; exact hxw
          clear hxw
          go_wp2_with (first
            | (go_at_call 39; ((with_reducible refine (B2.out.done' HL.out (by omega) HED.out).mono ?_)); rintro en w40 ⟨rfl, hb, hl⟩; clear hc hzz; have hbx : w40.heap[w1.heap.size]? = some (.cells #[.int .i64 (kd : Int), .string v1, .string v2, .string ⟨#[]⟩, .string ⟨#[]⟩, .int .i64 0, .int .i64 0, .int .i64 0, .int .i64 0, .int .i64 0, .int .i64 0, .int .i64 0, .int .i64 0, .slice none 0 0] 32 (0, 0)) := hb.box; have hc := fun i => blk_cell hbx i; have hrx := hb.res; have hrc := fun i => blk_cell hrx i; have hrz := fun i => blk_frozen hrx i; have BQ := Aside0.mk hb.res; have HLq := Aside0.mk hb.low; have BXq := Aside0.mk hb.box; have HSq := Aside0.mk hl; clear hb hbx hrx hl)
            | (go_at_call 27; ((with_reducible refine (HWf.out _).mono ?_)); rintro en w41 ⟨rfl, hb⟩; clear hc hrc hrz; have BK := Aside0.mk (blk_below BQ.out hb); have hrc := fun i => blk_cell BK.out i; have hrz := fun i => blk_frozen BK.out i; have BY := Aside0.mk (blk_below BXq.out hb); have hbx : w41.heap[w1.heap.size]? = some (.cells #[.int .i64 (kd : Int), .string v1, .string v2, .string ⟨#[]⟩, .string ⟨#[]⟩, .int .i64 0, .int .i64 0, .int .i64 0, .int .i64 0, .int .i64 0, .int .i64 0, .int .i64 0, .int .i64 0, .slice none 0 0] 32 (0, 0)) := BY.out; have hc := fun i => blk_cell hbx i; have HLow := Aside0.mk (HLq.out.trans (hb.mono HLq.out.size)); clear hb hbx))
          refine bodyPost_ret (results_ctt rfl _ _ w.heap.size 32 #[.int .i64 0, .string ⟨#[]⟩, .string ⟨#[]⟩, .string ⟨#[]⟩, .string ⟨#[]⟩, .int .i64 0, .int .i64 0, .int .i64 0, .int .i64 0, .int .i64 0, .int .i64 0, .int .i64 0, .int .i64 0, .slice none 0 0] (0, 0) _ rfl (blk_fill14 BK.out _ _ _ _ _ _ _ _ _ _ _ _ _ _) Tryz.underlying32 rfl (by kernel_rfl)) rfl ?_
          exact AskIs.mk_ (a := zAsk) (ok := fun _ => True) HD.out (Kd.R_nil _ _ _ _ _) (low_fill14 HLow.out _ _ _ _ _ _ _ _ _ _ _ _ _ _)
      · have HD : Aside0 (res = (zAsk, td, xd)) := ⟨HDb.out _ F2 td xd HK0.out Ha.out HED.out hxd⟩
        have t2 : (xd != 0) = true := by rw [bne_iff_ne]; exact hxd
        have t3 : (xd == 0) = false := by rw [beq_eq_false_iff_ne]; exact hxd
        clear hxd
        go_wp2_with (go_at_call 39; ((with_reducible refine (B2.out.done' HL.out (by omega) HED.out).mono ?_)); rintro en w40 ⟨rfl, hb, hl⟩; clear hc hzz; have hbx : w40.heap[w1.heap.size]? = some (.cells #[.int .i64 (kd : Int), .string v1, .string v2, .string ⟨#[]⟩, .string ⟨#[]⟩, .int .i64 0, .int .i64 0, .int .i64 0, .int .i64 0, .int .i64 0, .int .i64 0, .int .i64 0, .int .i64 0, .slice none 0 0] 32 (0, 0)) := hb.box; have hc := fun i => blk_cell hbx i; have hrx := hb.res; have hrc := fun i => blk_cell hrx i; have hrz := fun i => blk_frozen hrx i; have BQ := Aside0.mk hb.res; have HLq := Aside0.mk hb.low; have BXq := Aside0.mk hb.box; have HSq := Aside0.mk hl; clear hb hbx hrx hl)
        refine bodyPost_ret (results_ctt rfl _ _ w.heap.size 32 #[.int .i64 0, .string ⟨#[]⟩, .string ⟨#[]⟩, .string ⟨#[]⟩, .string ⟨#[]⟩, .int .i64 0, .int .i64 0, .int .i64 0, .int .i64 0, .int .i64 0, .int .i64 0, .int .i64 0, .int .i64 0, .slice none 0 0] (0, 0) _ rfl (blk_fill14 BQ.out _ _ _ _ _ _ _ _ _ _ _ _ _ _) Tryz.underlying32 rfl (by kernel_rfl)) rfl ?_
        exact AskIs.mk_ (a := zAsk) (ok := fun _ => True) HD.out (Kd.R_nil _ _ _ _ _) (low_fill14 HLq.out _ _ _ _ _ _ _ _ _ _ _ _ _ _)
theorem ref12_dec_some (s : ByteArray) (w : World) (hs : s.size ≤ 140737488351232) (F : FormS) (x : Int) (hq : readB s = (some F, x)) (v : ByteArray) (hv : (F.vals 35).getD ⟨#[]⟩ = v) :
    Calls Tryz.prog 13 #[.string s] w (AskIs (askD s) w) := by
  by_cases c1 : askKind v = 1
  · by_cases c2 : algOf (asksT askNew (F.mark 35)).1 = 2
    · exact ref12_dec_a s w hs F x hq v hv c1 (.inl c2)
    by_cases c3 : algOf (asksT askNew (F.mark 35)).1 = 3
    · exact ref12_dec_a s w hs F x hq v hv c1 (.inr c3)
    exact ref12_dec_b s w hs F x hq v hv c1 ⟨c2, c3⟩
  exact ref12_dec_c s w hs F x hq v hv c1
theorem ref12_Decode_walk (s : ByteArray) (w : World) (hs : s.size ≤ 140737488351232) :
    Calls Tryz.prog 13 #[.string s] w (AskIs (askD s) w) := by
  rcases hr : readB s with ⟨F, x⟩
  cases F with
  | none => exact ref12_dec_none s w hs x hr (readB_none_ne hr)
  | some F => exact ref12_dec_some s w hs F x hr _ rfl
end Go.Proofs.YtgfigkfcmkdjdaaGreatDoor.B
end
