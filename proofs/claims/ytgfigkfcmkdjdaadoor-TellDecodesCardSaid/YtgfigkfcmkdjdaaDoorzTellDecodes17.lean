/- The functions that the law reaches, as plain Lean functions, and their contracts: texts merged. -/
import Derived.Test.YtgfigkfcmkdjdaaDoorzTellDecodes2
import Derived.Test.YtgfigkfcmkdjdaaDoorzTellDecodes0
import Derived.Test.YtgfigkfcmkdjdaaDoorzTellDecodes1
import Derived.Test.YtgfigkfcmkdjdaaDoorzTellDecodes3
import Derived.Test.YtgfigkfcmkdjdaaDoorzTellDecodes4
import Derived.Test.YtgfigkfcmkdjdaaDoorzTellDecodes16
import Derived.Test.YtgfigkfcmkdjdaaDoorzTellDecodes5
import Derived.Test.YtgfigkfcmkdjdaaDoorzTellDecodes6
import Derived.Test.YtgfigkfcmkdjdaaDoorzTellDecodes7
import Derived.Test.YtgfigkfcmkdjdaaDoorzTellDecodes8
import Derived.Test.YtgfigkfcmkdjdaaDoorzTellDecodes9
import Derived.Test.YtgfigkfcmkdjdaaDoorzTellDecodes10
import Derived.Test.YtgfigkfcmkdjdaaDoorzTellDecodes11
import Derived.Test.YtgfigkfcmkdjdaaDoorzTellDecodes12
import Derived.Test.YtgfigkfcmkdjdaaDoorzTellDecodes13
import Derived.Test.YtgfigkfcmkdjdaaDoorzTellDecodes14
import Derived.Test.YtgfigkfcmkdjdaaDoorzTellDecodes15
section
namespace Go.Proofs.YtgfigkfcmkdjdaaDoor.B
open Go.RowKit Go.Proofs.YtgfigkfcmkdjdaaDoorW.PrintWords Go.Proofs.YtgfigkfcmkdjdaaDoorW.PrintLast Go.Proofs.YtgfigkfcmkdjdaaDoorW.PrintMore
attribute [local go_sem] max2_int min2_int max_two min_two max_three min_three max_four min_four   -- for this text's walks alone
set_option linter.unusedVariables false
set_option linter.unusedSimpArgs false
set_option maxRecDepth 100000 in
theorem int_closure (b0 b1 : Nat) (low high : Int) (s : ByteArray) (W : World) (hs : s.size ≤ 140737488351232) (h0 : W.cell? ⟨b0, 0, none⟩ = some (.int .i64 low)) (h1 : W.cell? ⟨b1, 0, none⟩ = some (.int .i64 high)) :
    Calls Tryd.prog 106 (#[.string s] ++ #[.pointer (some ⟨b0, 0, none⟩), .pointer (some ⟨b1, 0, none⟩)]) W fun e w' => e = .returned (.tuple #[.int .i64 (takeInt s low high).1, .int .i64 (takeInt s low high).2]) ∧ Below W.heap.size W w' := by
  have HN := Aside0.mk (body_Number_walk s W hs)
  have l0 := World.block_lt_of_cell? W _ h0
  have l1 := World.block_lt_of_cell? W _ h1
  unfold takeInt
  generalize hr : numP s.data.toList = r at *
  obtain ⟨n, e⟩ := r
  go_enter Tryd.func106, Tryd.ntmps106
  go_wp2_with (go_at_call 107; refine HN.out.mono ?_; rintro en w1 ⟨rfl, hb⟩; have h0' := (hb.cell (p := ⟨b0, 0, none⟩) l0).trans h0; have h1' := (hb.cell (p := ⟨b1, 0, none⟩) l1).trans h1)
  all_goals go_ret2
  all_goals exact ⟨rfl, hb⟩
set_option maxRecDepth 100000 in
set_option maxHeartbeats 4000000 in
theorem ask_int (g : Nat) (p : PlS) (F : FormS) (k : Nat) (w : World) (h : FormIs g p F k w) (hk : k < 9223372036854775807) (hv : ∀ x s, F.vals x = some s → s.size ≤ 140737488351232) (t low high : Int) (ht : i64ok t) (b0 b1 : Nat)
    (h0 : w.cell? ⟨b0, 0, none⟩ = some (.int .i64 low)) (h1 : w.cell? ⟨b1, 0, none⟩ = some (.int .i64 high)) (n0 : ¬ FormB g p b0) (n1 : ¬ FormB g p b1) :
    Calls Tryd.prog 105 #[.pointer (some ⟨g, 0, none⟩), .int .i64 t, .func (.func 106) #[] #[.pointer (some ⟨b0, 0, none⟩), .pointer (some ⟨b1, 0, none⟩)]] w fun e w' =>
      e = .returned (.int .i64 (askL (fun s => takeInt s low high) 0 F t).1) ∧ FormIs g p (askL (fun s => takeInt s low high) 0 F t).2 (k + 1) w' ∧ Turned (FormB g p) w w' := by
  have hc1 := h.c1
  have hc2 := h.c2
  have hc4 := h.c4
  have HF := Aside0.mk h
  have HIs := Aside0.mk (form_is g p F k w h)
  by_cases he : F.e = 0
  · have t1 : (F.e != 0) = false := by rw [he]; rfl
    obtain ⟨w1, hrun, hAs, hgr⟩ := h.asked.put t ht hk
    have HF1 : Aside0 (FormIs g p (F.mark t) (k + 1) w1) := ⟨h.ask hAs hgr⟩
    have HT : Aside0 (Turned (FormB g p) w w1) := ⟨Turned.of_grown hgr (.inr rfl)⟩
    have HH := Aside0.mk (form_has g p _ _ w1 HF1.out t ht)
    have h0' := HT.out.cell h0 n0
    have h1' := HT.out.cell h1 n1
    have hc11 := HF1.out.c1
    have hlk := HF1.out.vals.look t ht
    clear hgr hAs h0 h1
    have hc31 := HF1.out.c3
    have hc41 := HF1.out.c4
    have hl31 := HF1.out.l3
    have hl41 := HF1.out.l4
    rw [show (F.mark t).vals t = F.vals t from rfl] at HH hlk
    cases hvt : F.vals t with
    | none =>
      have HA := Aside0.mk (askL_none (fun s => takeInt s low high) 0 F t he hvt)
      rw [hvt] at HH hlk
      have HE := Aside0.mk (HF1.out.fail t 110)
      have HT2 : Aside0 (Turned (FormB g p) w ((w1.setCell ⟨g, 3, none⟩ (.int .i64 t)).setCell ⟨g, 4, none⟩ (.int .i64 110))) := ⟨(HT.out.setCell (p := ⟨g, 3, none⟩) (.inl rfl) _).setCell (p := ⟨g, 4, none⟩) (.inl rfl) _⟩
      simp only [Option.isSome_none] at HH
      clear hlk
      go_enter Tryd.func105, Tryd.ntmps105
      go_wp2_with (first | (go_at_call 102; refine HIs.out.mono ?_; rintro e w' ⟨rfl, hh⟩; obtain rfl : w = w' := hh.symm) | (go_at_call 101; refine HH.out.mono ?_; rintro e w' ⟨rfl, hh⟩; obtain rfl : w1 = w' := hh.symm))
      go_ret
      rw [HA.out]
      exact ⟨rfl, HE.out, HT2.out⟩
    | some s =>
      have HA := Aside0.mk (askL_some (fun s => takeInt s low high) 0 F t he hvt)
      rw [hvt] at HH hlk
      simp only [Option.isSome_some, Option.getD_some] at HH hlk
      have HC := Aside0.mk (int_closure b0 b1 low high s w1 (hv t s hvt) h0' h1')
      try simp only at HA
      generalize hr : takeInt s low high = r at *
      obtain ⟨n, e⟩ := r
      try simp only at HA HC
      clear hr h0' h1'
      have HR : Aside0 (∀ w2, Below w1.heap.size w1 w2 → FormIs g p (F.mark t) (k + 1) w2 ∧ Turned (FormB g p) w w2) := ⟨fun w2 hb => ⟨HF1.out.below hb, HT.out.trans (Turned.of_below hb)⟩⟩
      have HE : Aside0 (∀ w2, FormIs g p (F.mark t) (k + 1) w2 → Turned (FormB g p) w w2 → FormIs g p ((F.mark t).fail t e) (k + 1) ((w2.setCell ⟨g, 3, none⟩ (.int .i64 t)).setCell ⟨g, 4, none⟩ (.int .i64 e)) ∧ Turned (FormB g p) w ((w2.setCell ⟨g, 3, none⟩ (.int .i64 t)).setCell ⟨g, 4, none⟩ (.int .i64 e))) := ⟨fun w2 h2 ht2 => ⟨h2.fail t e, (ht2.setCell (p := ⟨g, 3, none⟩) (.inl rfl) _).setCell (p := ⟨g, 4, none⟩) (.inl rfl) _⟩⟩
      by_cases ce : e = 0
      · have HA2 : Aside0 (askL (fun s => takeInt s low high) 0 F t = (n, F.mark t)) := ⟨HA.out.trans (if_pos ce)⟩
        have t2 : (e == 0) = true := by rw [ce]; rfl
        clear HA
        go_enter Tryd.func105, Tryd.ntmps105
        go_wp2_with (first | (go_at_call 102; refine HIs.out.mono ?_; rintro e w' ⟨rfl, hh⟩; obtain rfl : w = w' := hh.symm) | (go_at_call 101; refine HH.out.mono ?_; rintro e w' ⟨rfl, hh⟩; obtain rfl : w1 = w' := hh.symm) | (go_at_call 106; refine HC.out.mono ?_; rintro en w2 ⟨rfl, hb⟩; have HR2 := Aside0.mk (HR.out w2 hb); have hc32 := HR2.out.1.c3; have hc42 := HR2.out.1.c4; have hl32 := HR2.out.1.l3; have hl42 := HR2.out.1.l4; clear hb))
        go_ret
        rw [HA2.out]
        exact ⟨rfl, HR2.out.1, HR2.out.2⟩
      · have HA2 : Aside0 (askL (fun s => takeInt s low high) 0 F t = (0, (F.mark t).fail t e)) := ⟨HA.out.trans (if_neg ce)⟩
        have t2 : (e == 0) = false := by rw [beq_eq_false_iff_ne]; exact ce
        clear HA
        go_enter Tryd.func105, Tryd.ntmps105
        go_wp2_with (first | (go_at_call 102; refine HIs.out.mono ?_; rintro e w' ⟨rfl, hh⟩; obtain rfl : w = w' := hh.symm) | (go_at_call 101; refine HH.out.mono ?_; rintro e w' ⟨rfl, hh⟩; obtain rfl : w1 = w' := hh.symm) | (go_at_call 106; refine HC.out.mono ?_; rintro en w2 ⟨rfl, hb⟩; have HR2 := Aside0.mk (HR.out w2 hb); have hc32 := HR2.out.1.c3; have hc42 := HR2.out.1.c4; have hl32 := HR2.out.1.l3; have hl42 := HR2.out.1.l4; clear hb))
        go_ret
        rw [HA2.out]
        exact ⟨rfl, (HE.out w2 HR2.out.1 HR2.out.2).1, (HE.out w2 HR2.out.1 HR2.out.2).2⟩
  · have HA : Aside0 (askL (fun s => takeInt s low high) 0 F t = (0, F)) := ⟨askL_off _ _ _ _ he⟩
    have t1 : (F.e != 0) = true := by rw [bne_iff_ne]; exact he
    go_enter Tryd.func105, Tryd.ntmps105
    go_wp2_with (go_at_call 102; refine HIs.out.mono ?_; rintro e w' ⟨rfl, hh⟩; obtain rfl : w = w' := hh.symm)
    go_ret
    rw [HA.out]
    exact ⟨rfl, HF.out.mono (by omega), Turned.refl _ _⟩
set_option maxRecDepth 100000 in
set_option maxHeartbeats 4000000 in
theorem form_int (g : Nat) (p : PlS) (F : FormS) (k : Nat) (w : World) (h : FormIs g p F k w) (hk : k < 9223372036854775807) (hv : ∀ x s, F.vals x = some s → s.size ≤ 140737488351232) (t low high : Int) (ht : i64ok t) (ha : p.a < w.heap.size) :
    Calls Tryd.prog 61 #[.pointer (some ⟨g, 0, none⟩), .int .i64 t, .int .i64 low, .int .i64 high] w fun e w' =>
      e = .returned (.int .i64 (askL (fun s => takeInt s low high) 0 F t).1) ∧ FormIs g p (askL (fun s => takeInt s low high) 0 F t).2 (k + 1) w' ∧ Turned (FormB g p) w w' := by
  have hg := h.lt
  have HB : Aside0 (Below w.heap.size w ((w.alloc (.cells #[.int .i64 low] 3)).alloc (.cells #[.int .i64 high] 3))) := ⟨((Below.refl _ _).alloc (Nat.le_refl _) _).alloc (by simp) _⟩
  have HF := Aside0.mk (h.below HB.out)
  have HAk := Aside0.mk (ask_int g p F k _ HF.out hk hv t low high ht w.heap.size (w.heap.size + 1) (by simp [go_sem]) (by simp [go_sem]) (fun e => by rcases e with e | e <;> omega) (fun e => by rcases e with e | e <;> omega))
  have hmf : ∀ (fn : Fn) (first cap : Array Value) (w : World), (Instr.makeFunc fn first cap).run Tryd.prog w = .ok (.func fn first cap) w := fun _ _ _ _ => rfl
  go_enter Tryd.func61, Tryd.ntmps61
  go_wp2_with (go_at_call 105; refine HAk.out.mono ?_; rintro e w' ⟨rfl, h1, h2⟩)
  go_ret
  exact ⟨rfl, h1, (Turned.of_below HB.out).trans h2⟩
end Go.Proofs.YtgfigkfcmkdjdaaDoor.B
end
section
namespace Go.Proofs.YtgfigkfcmkdjdaaDoor.B
open Go.RowKit Go.Proofs.YtgfigkfcmkdjdaaDoorW.PrintWords Go.Proofs.YtgfigkfcmkdjdaaDoorW.PrintLast Go.Proofs.YtgfigkfcmkdjdaaDoorW.PrintMore
attribute [local go_sem] max2_int min2_int max_two min_two max_three min_three max_four min_four   -- for this text's walks alone
set_option linter.unusedVariables false
set_option linter.unusedSimpArgs false
theorem askL_vals {α : Type} (take : ByteArray → α × Int) (z : α) (F : FormS) (t : Int) : (askL take z F t).2.vals = F.vals := by
  unfold askL
  split
  · rfl
  · split
    · rfl
    · split <;> rfl
theorem askL_order {α : Type} (take : ByteArray → α × Int) (z : α) (F : FormS) (t : Int) : (askL take z F t).2.order = F.order := by
  unfold askL
  split
  · rfl
  · split
    · rfl
    · split <;> rfl
theorem Turned.imp {S S' : Nat → Prop} {w w' : World} (h : Turned S w w') (hs : ∀ k, S k → S' k) : Turned S' w w' := ⟨h.os, h.tape, h.output, h.size, fun k hk hn => h.block k hk (fun e => hn (hs k e))⟩
structure PrgBox (w : World) (g : Nat) (p : PlS) (L : List S78) (b : Nat) (T : TypeId) (F : FormS) (k : Nat) (cs : Array Value) (W : World) : Prop where
  form : FormIs g p F k W
  vals : F.vals = valsOf L
  box : W.heap[b]? = some (.cells cs T (0, 0))
  low : Below w.heap.size w W
  wb : w.heap.size ≤ b
  wg : w.heap.size ≤ g
  wa : w.heap.size ≤ p.a
  bg : b ≠ g
  ba : b ≠ p.a
  bv : b ≠ p.v
  bo : ∀ a, p.A = some a → a.block ≠ b
section
variable {w : World} {g : Nat} {p : PlS} {L : List S78} {b : Nat} {T : TypeId} {F F' : FormS} {k k' : Nat} {cs : Array Value} {W W' : World}
theorem PrgBox.call (h : PrgBox w g p L b T F k cs W) (hf : FormIs g p F' k' W') (hv : F'.vals = F.vals) (ht : Turned (FormB g p) W W') : PrgBox w g p L b T F' k' cs W' :=
  ⟨hf, hv.trans h.vals, (ht.block b (blk_lt h.box) (fun e => e.elim h.bg h.ba)).trans h.box, h.low.trans (ht.below (fun j hj => hj.elim (fun e => e ▸ h.wg) (fun e => e ▸ h.wa)) h.low.size), h.wb, h.wg, h.wa, h.bg, h.ba, h.bv, h.bo⟩
theorem PrgBox.below (h : PrgBox w g p L b T F k cs W) (hb : Below W.heap.size W W') : PrgBox w g p L b T F k cs W' :=
  ⟨h.form.below hb, h.vals, blk_below h.box hb, h.low.trans (hb.mono h.low.size), h.wb, h.wg, h.wa, h.bg, h.ba, h.bv, h.bo⟩
theorem PrgBox.set (h : PrgBox w g p L b T F k cs W) (j : Nat) (v : Value) : PrgBox w g p L b T F k (cs.setIfInBounds j v) (W.setCell ⟨b, j, none⟩ v) :=
  ⟨h.form.turned (S := fun x => x = b) (Turned.setCell (S := fun x => x = b) (Turned.refl _ _) (p := ⟨b, j, none⟩) rfl _) (fun e => h.bg e.symm) (fun e => h.ba e.symm) (fun e => h.bv e.symm) (fun a ha => h.bo a ha), h.vals, blk_set h.box j v, h.low.setCell h.wb _, h.wb, h.wg, h.wa, h.bg, h.ba, h.bv, h.bo⟩
theorem PrgBox.name (h : PrgBox w g p L b T F k cs W) {t : Int} {v : ByteArray} (E : askL takeName ⟨#[]⟩ F t = (v, F')) (ht : i64ok t) (hk : k ≤ 1000) (hz : ∀ y ∈ L, y.f1.size ≤ 512) :
    Calls Tryd.prog 60 #[.pointer (some ⟨g, 0, none⟩), .int .i64 t] W fun e w' => e = .returned (.string v) ∧ PrgBox w g p L b T F' (k + 1) cs w' ∧ Turned (FormB g p) W w' := by
  have h1 := form_name g p F k W h.form (by omega) (fun x s hx => by
    rw [h.vals] at hx
    obtain ⟨y, hy, _, rfl⟩ := valsOf_mem _ _ _ hx
    have := hz y hy
    omega) t ht
  have hv := askL_vals takeName ⟨#[]⟩ F t
  rw [E] at h1 hv
  exact h1.mono fun e w' hh => ⟨hh.1, h.call hh.2.1 hv hh.2.2, hh.2.2⟩
theorem PrgBox.int (h : PrgBox w g p L b T F k cs W) {t low high : Int} {v : Int} (E : askL (fun s => takeInt s low high) 0 F t = (v, F')) (ht : i64ok t) (hk : k ≤ 1000) (hz : ∀ y ∈ L, y.f1.size ≤ 512) :
    Calls Tryd.prog 61 #[.pointer (some ⟨g, 0, none⟩), .int .i64 t, .int .i64 low, .int .i64 high] W fun e w' => e = .returned (.int .i64 v) ∧ PrgBox w g p L b T F' (k + 1) cs w' ∧ Turned (FormB g p) W w' := by
  have h1 := form_int g p F k W h.form (by omega) (fun x s hx => by
    rw [h.vals] at hx
    obtain ⟨y, hy, _, rfl⟩ := valsOf_mem _ _ _ hx
    have := hz y hy
    omega) t low high ht h.form.alt
  have hv := askL_vals (fun s => takeInt s low high) 0 F t
  rw [E] at h1 hv
  exact h1.mono fun e w' hh => ⟨hh.1, h.call hh.2.1 hv hh.2.2, hh.2.2⟩
theorem PrgBox.kind (h : PrgBox w g p L b T F k cs W) (hk : k ≤ 1000) (he : F.e = 0) {s : ByteArray} (hs : (F.vals 35).getD ⟨#[]⟩ = s) :
    Calls Tryd.prog 59 #[.pointer (some ⟨g, 0, none⟩)] W fun e w' => e = .returned (.string s) ∧ PrgBox w g p L b T (F.mark 35) (k + 1) cs w' := by
  have h1 := form_kind g p F k W h.form (by omega)
  rw [hs] at h1
  exact h1.mono fun e w' hh => ⟨hh.1, h.call (F' := F.mark 35) (hh.2.2 he).1 rfl (hh.2.2 he).2⟩
theorem PrgBox.done (h : PrgBox w g p L b T F k cs W) (hl : F.order.length ≤ 1000) {t e0 : Int} (hd : doneL F = (t, e0)) :
    Calls Tryd.prog 62 #[.pointer (some ⟨g, 0, none⟩)] W fun e w' => e = .returned (.tuple #[.int .i64 t, .int .i64 e0]) ∧ PrgBox w g p L b T F k cs w' := by
  unfold doneL at hd
  by_cases he : F.e = 0
  · rw [if_neg (by simpa using he)] at hd
    have h1 := form_done_ok g p F k W h.form he (by omega)
    rw [hd] at h1
    exact h1.mono fun e w' hh => by
      obtain ⟨h2, rfl⟩ := hh
      exact ⟨h2, h⟩
  · rw [if_pos he] at hd
    have h1 := form_done_e g p F k W h.form he
    simp only [Prod.mk.injEq] at hd
    rw [hd.1, hd.2] at h1
    exact h1.mono fun e w' hh => by
      obtain ⟨h2, q, rfl⟩ := hh
      exact ⟨h2, h.below (pw_below_drewN (Below.refl _ _) q)⟩
end
theorem tell_name_0 (b : Nat) (w : World) : Calls Tryd.prog 48 #[.pointer (some ⟨b, 0, none⟩), .int .i64 0] w fun e w' => e = .returned (.pointer (some ⟨b, 1, none⟩)) ∧ w' = w := by
  go_enter Tryd.func48, Tryd.ntmps48
  go_wp2
  go_ret
  exact ⟨rfl, rfl⟩
theorem tell_name_1 (b : Nat) (w : World) : Calls Tryd.prog 48 #[.pointer (some ⟨b, 0, none⟩), .int .i64 1] w fun e w' => e = .returned (.pointer (some ⟨b, 2, none⟩)) ∧ w' = w := by
  go_enter Tryd.func48, Tryd.ntmps48
  go_wp2
  go_ret
  exact ⟨rfl, rfl⟩
theorem tell_name_n (b : Nat) (x : Int) (hx : 2 ≤ x) (w : World) : Calls Tryd.prog 48 #[.pointer (some ⟨b, 0, none⟩), .int .i64 x] w fun e w' => e = .returned (.pointer none) ∧ w' = w := by
  have t1 : (x == 0) = false := by rw [beq_eq_false_iff_ne]; omega
  have t2 : (x == 1) = false := by rw [beq_eq_false_iff_ne]; omega
  go_enter Tryd.func48, Tryd.ntmps48
  go_wp2
  go_ret
  exact ⟨rfl, rfl⟩
def offT (x : Int) : Nat := if x = 0 then 1 else if x = 1 then 2 else if x = 2 then 3 else if x = 3 then 4 else if x = 4 then 5 else if x = 5 then 6 else if x = 6 then 7 else if x = 7 then 8 else 9
theorem tell_number_x (b : Nat) (x : Int) (hx : 2 ≤ x ∧ x ≤ 10) (w : World) : Calls Tryd.prog 50 #[.pointer (some ⟨b, 0, none⟩), .int .i64 x] w fun e w' => e = .returned (.pointer (some ⟨b, offT x, none⟩)) ∧ w' = w := by
  rcases (show x = 2 ∨ x = 3 ∨ x = 4 ∨ x = 5 ∨ x = 6 ∨ x = 7 ∨ x = 8 ∨ x = 9 ∨ x = 10 by omega) with rfl | rfl | rfl | rfl | rfl | rfl | rfl | rfl | rfl
  all_goals
    go_enter Tryd.func50, Tryd.ntmps50
    go_wp2
    go_ret
    exact ⟨rfl, rfl⟩
def askOf (x : Int) : AskT :=
  if x = 0 then .name 11 else if x = 1 then .name 17 else if x = 2 then .int 39 0 9 else if x = 3 then .int 32 0 1099511627776 else if x = 4 then .int 31 0 1099511627776 else if x = 5 then .int 14 0 1099511627776
  else if x = 6 then .int 151 0 1099511627776 else if x = 7 then .int 371 0 99999 else if x = 8 then .int 103 0 999 else if x = 9 then .int 373 0 999 else .int 380 0 999
def ValT.val : ValT → Value
  | .s x => .string x
  | .n x => .int .i64 x
  | .l _ => .slice none 0 0
def runT : List Int → FormS → Array Value → Array Value × FormS
  | [], F, cs => (cs, F)
  | x :: r, F, cs => runT r (askT (askOf x) F).2 (cs.setIfInBounds (offT x) (askT (askOf x) F).1.val)
theorem runT_cons (x : Int) (r : List Int) (F : FormS) (cs : Array Value) : runT (x :: r) F cs = runT r (askT (askOf x) F).2 (cs.setIfInBounds (offT x) (askT (askOf x) F).1.val) := rfl
def slotsN : Nat → List Int
  | 1 => [0, 1, 2, 3, 4, 5, 6, 8]
  | 2 => [0, 2, 8]
  | 3 => [7, 9]
  | 4 => [7, 10]
  | _ => []
def tcells0 (n : Int) : Array Value := #[.int .i64 n, .string ⟨#[]⟩, .string ⟨#[]⟩, .int .i64 0, .int .i64 0, .int .i64 0, .int .i64 0, .int .i64 0, .int .i64 0, .int .i64 0]
set_option maxHeartbeats 4000000 in
theorem runT_1 (F : FormS) : runT (slotsN 1) F (tcells0 1) = (tellCells (tellOf 1 (asksT (tellSchema 1) F).1), (asksT (tellSchema 1) F).2) := by
  rfl
theorem runT_2 (F : FormS) : runT (slotsN 2) F (tcells0 2) = (tellCells (tellOf 2 (asksT (tellSchema 2) F).1), (asksT (tellSchema 2) F).2) := by
  rfl
theorem runT_3 (F : FormS) : runT (slotsN 3) F (tcells0 3) = (tellCells (tellOf 3 (asksT (tellSchema 3) F).1), (asksT (tellSchema 3) F).2) := by
  rfl
theorem runT_4 (F : FormS) : runT (slotsN 4) F (tcells0 4) = (tellCells (tellOf 4 (asksT (tellSchema 4) F).1), (asksT (tellSchema 4) F).2) := by
  rfl
theorem tellKind_le (v : ByteArray) : tellKind v ≤ 4 := by
  unfold tellKind
  by_cases c1 : v = ⟨#[56]⟩
  · rw [if_pos c1]; decide
  rw [if_neg c1]
  by_cases c2 : v = ⟨#[57]⟩
  · rw [if_pos c2]; decide
  rw [if_neg c2]
  by_cases c3 : v = ⟨#[51]⟩
  · rw [if_pos c3]; decide
  rw [if_neg c3]
  by_cases c4 : v = ⟨#[106]⟩
  · rw [if_pos c4]; decide
  rw [if_neg c4]; decide
theorem runT_k (k : Nat) (h1 : 1 ≤ k) (h4 : k ≤ 4) (F : FormS) : runT (slotsN k) F (tcells0 (k : Int)) = (tellCells (tellOf k (asksT (tellSchema k) F).1), (asksT (tellSchema k) F).2) := by
  rcases (show k = 1 ∨ k = 2 ∨ k = 3 ∨ k = 4 by omega) with rfl | rfl | rfl | rfl
  · exact runT_1 F
  · exact runT_2 F
  · exact runT_3 F
  · exact runT_4 F
theorem tell_slots_k (k : Nat) (h1 : 1 ≤ k) (h4 : k ≤ 4) : tell_slots.f (k : Int) = some (slotsN k) := by
  rcases (show k = 1 ∨ k = 2 ∨ k = 3 ∨ k = 4 by omega) with rfl | rfl | rfl | rfl <;> rfl
theorem slotsN_mem (k : Nat) : ∀ x ∈ slotsN k, 0 ≤ x ∧ x ≤ 10 := by
  intro x hx
  match k with
  | 0 => simp [slotsN] at hx
  | 1 => simp [slotsN] at hx; omega
  | 2 => simp [slotsN] at hx; omega
  | 3 => simp [slotsN] at hx; omega
  | 4 => simp [slotsN] at hx; omega
  | n + 5 => simp [slotsN] at hx
theorem slotsN_len (k : Nat) : (slotsN k).length ≤ 8 := by
  match k with
  | 0 => decide
  | 1 => decide
  | 2 => decide
  | 3 => decide
  | 4 => decide
  | n + 5 => show (0 : Nat) ≤ 8; decide
theorem word_kind (v : ByteArray) (i : Nat) (h1 : 1 ≤ i) (h4 : i ≤ 4) : ∃ r, tell_word.f (i : Int) = some r ∧ (r = v ↔ tellKind v = i) := by
  have key : ∀ (r : ByteArray), r = v → tellKind r = i → (r = v ↔ tellKind v = i) := fun r e h => ⟨fun _ => e ▸ h, fun _ => e⟩
  rcases (show i = 1 ∨ i = 2 ∨ i = 3 ∨ i = 4 by omega) with rfl | rfl | rfl | rfl
  · refine ⟨⟨#[56]⟩, rfl, ?_⟩
    by_cases e : v = ⟨#[56]⟩
    · subst e; exact ⟨fun _ => rfl, fun _ => rfl⟩
    · refine ⟨fun g => absurd g.symm e, fun g => ?_⟩
      unfold tellKind at g
      rw [if_neg e] at g
      repeat' split at g <;> first | omega | skip
  · refine ⟨⟨#[57]⟩, rfl, ?_⟩
    by_cases e : v = ⟨#[57]⟩
    · subst e; exact ⟨fun _ => rfl, fun _ => rfl⟩
    · refine ⟨fun g => absurd g.symm e, fun g => ?_⟩
      unfold tellKind at g
      rw [if_neg e] at g
      repeat' split at g <;> first | omega | skip
  · refine ⟨⟨#[51]⟩, rfl, ?_⟩
    by_cases e : v = ⟨#[51]⟩
    · subst e; exact ⟨fun _ => rfl, fun _ => rfl⟩
    · refine ⟨fun g => absurd g.symm e, fun g => ?_⟩
      unfold tellKind at g
      rw [if_neg e] at g
      repeat' split at g <;> first | omega | skip
  · refine ⟨⟨#[106]⟩, rfl, ?_⟩
    by_cases e : v = ⟨#[106]⟩
    · subst e; exact ⟨fun _ => rfl, fun _ => rfl⟩
    · refine ⟨fun g => absurd g.symm e, fun g => ?_⟩
      unfold tellKind at g
      rw [if_neg e] at g
      repeat' split at g <;> first | omega | skip
theorem askOf_name (x : Int) (h : x = 0 ∨ x = 1) : ∃ t j, askOf x = .name t ∧ tell_placeOf.f x = some (t, 0) ∧ offT x = j ∧ (j = 1 ∨ j = 2) ∧ i64ok t ∧ (∀ b w, Calls Tryd.prog 48 #[.pointer (some ⟨b, 0, none⟩), .int .i64 x] w fun e w' => e = .returned (.pointer (some ⟨b, j, none⟩)) ∧ w' = w) := by
  rcases h with rfl | rfl
  · exact ⟨11, 1, rfl, rfl, rfl, .inl rfl, i64ok_of (by decide) (by decide), fun b w => tell_name_0 b w⟩
  · exact ⟨17, 2, rfl, rfl, rfl, .inr rfl, i64ok_of (by decide) (by decide), fun b w => tell_name_1 b w⟩
theorem askOf_int (x : Int) (h : 2 ≤ x ∧ x ≤ 10) : ∃ t m, askOf x = .int t 0 m ∧ tell_placeOf.f x = some (t, m) ∧ 3 ≤ offT x ∧ offT x ≤ 9 ∧ i64ok t := by
  rcases (show x = 2 ∨ x = 3 ∨ x = 4 ∨ x = 5 ∨ x = 6 ∨ x = 7 ∨ x = 8 ∨ x = 9 ∨ x = 10 by omega) with rfl | rfl | rfl | rfl | rfl | rfl | rfl | rfl | rfl
  all_goals exact ⟨_, _, rfl, rfl, by decide, by decide, i64ok_of (by decide) (by decide)⟩
theorem blk_fill10 {W : World} {b : Nat} {T : TypeId} {a0 a1 a2 a3 a4 a5 a6 a7 a8 a9 : Value} (h : W.heap[b]? = some (.cells #[a0, a1, a2, a3, a4, a5, a6, a7, a8, a9] T (0, 0))) (v0 v1 v2 v3 v4 v5 v6 v7 v8 v9 : Value) :
    ((((((((((W.setCell ⟨b, 0, none⟩ v0).setCell ⟨b, 1, none⟩ v1).setCell ⟨b, 2, none⟩ v2).setCell ⟨b, 3, none⟩ v3).setCell ⟨b, 4, none⟩ v4).setCell ⟨b, 5, none⟩ v5).setCell ⟨b, 6, none⟩ v6).setCell ⟨b, 7, none⟩ v7).setCell ⟨b, 8, none⟩ v8).setCell ⟨b, 9, none⟩ v9).heap[b]? = some (.cells #[v0, v1, v2, v3, v4, v5, v6, v7, v8, v9] T (0, 0)) := by
  have h2 := (blk_set (blk_set (blk_set (blk_set (blk_set (blk_set (blk_set (blk_set (blk_set (blk_set h 0 v0) 1 v1) 2 v2) 3 v3) 4 v4) 5 v5) 6 v6) 7 v7) 8 v8) 9 v9)
  simp only [List.setIfInBounds_toArray, List.set_cons_zero, List.set_cons_succ] at h2
  exact h2
theorem low_fill10 {w W : World} (hl : Below w.heap.size w W) (v0 v1 v2 v3 v4 v5 v6 v7 v8 v9 : Value) : Below w.heap.size w ((((((((((W.setCell ⟨w.heap.size, 0, none⟩ v0).setCell ⟨w.heap.size, 1, none⟩ v1).setCell ⟨w.heap.size, 2, none⟩ v2).setCell ⟨w.heap.size, 3, none⟩ v3).setCell ⟨w.heap.size, 4, none⟩ v4).setCell ⟨w.heap.size, 5, none⟩ v5).setCell ⟨w.heap.size, 6, none⟩ v6).setCell ⟨w.heap.size, 7, none⟩ v7).setCell ⟨w.heap.size, 8, none⟩ v8).setCell ⟨w.heap.size, 9, none⟩ v9) := (low_set (low_set (low_set (low_set (low_set (low_set (low_set (low_set (low_set (low_set hl 0 v0) 1 v1) 2 v2) 3 v3) 4 v4) 5 v5) 6 v6) 7 v7) 8 v8) 9 v9)
end Go.Proofs.YtgfigkfcmkdjdaaDoor.B
end
section
namespace Go.Proofs.YtgfigkfcmkdjdaaDoor.B
open Go.RowKit Go.Proofs.YtgfigkfcmkdjdaaDoorW.PrintWords Go.Proofs.YtgfigkfcmkdjdaaDoorW.PrintLast Go.Proofs.YtgfigkfcmkdjdaaDoorW.PrintMore
attribute [local go_sem] max2_int min2_int max_two min_two max_three min_three max_four min_four   -- for this text's walks alone
set_option linter.unusedVariables false
set_option linter.unusedSimpArgs false
set_option maxRecDepth 100000 in
set_option maxHeartbeats 8000000 in
theorem tell_dec_none (s : ByteArray) (w : World) (hs : s.size ≤ 140737488351232) (e : Int) (hq : readB s = (none, e)) (he : e ≠ 0) :
    Calls Tryd.prog 20 #[.string s] w (TellIs (tellD s) w) := by
  have HR := Aside0.mk (read_walk s (w.alloc (.cells #[.int .i64 0, .string ⟨#[]⟩, .string ⟨#[]⟩, .int .i64 0, .int .i64 0, .int .i64 0, .int .i64 0, .int .i64 0, .int .i64 0, .int .i64 0] 23)) hs)
  have HD := Aside0.mk (tellD_none hq)
  rw [hq] at HR
  have t1 : (e != 0) = true := by rw [bne_iff_ne]; exact he
  have BK0 := Aside0.mk (blk_new w (.cells #[.int .i64 0, .string ⟨#[]⟩, .string ⟨#[]⟩, .int .i64 0, .int .i64 0, .int .i64 0, .int .i64 0, .int .i64 0, .int .i64 0, .int .i64 0] 23))
  have HB0 : Aside0 (Below w.heap.size w (w.alloc (.cells #[.int .i64 0, .string ⟨#[]⟩, .string ⟨#[]⟩, .int .i64 0, .int .i64 0, .int .i64 0, .int .i64 0, .int .i64 0, .int .i64 0, .int .i64 0] 23))) := ⟨(Below.refl _ _).alloc (Nat.le_refl _) _⟩
  clear hq he
  go_enter Tryd.func20, Tryd.ntmps20
  go_wp2_with (go_at_call 58; refine HR.out.mono ?_; rintro en w1 ⟨hb1, rfl⟩; have BK := Aside0.mk (blk_below BK0.out hb1); have HB := Aside0.mk (HB0.out.trans (hb1.mono HB0.out.size)); clear hb1; have hc := fun i => blk_cell BK.out i; have hf := fun i => blk_frozen BK.out i)
  refine bodyPost_ret (results_ctt rfl _ _ w.heap.size 23 #[.int .i64 0, .string ⟨#[]⟩, .string ⟨#[]⟩, .int .i64 0, .int .i64 0, .int .i64 0, .int .i64 0, .int .i64 0, .int .i64 0, .int .i64 0] (0, 0) _ rfl (blk_fill10 BK.out _ _ _ _ _ _ _ _ _ _) Tryd.underlying23 rfl (by kernel_rfl)) rfl ?_
  exact TellIs.mk_ (a := zTell) HD.out (low_fill10 HB.out _ _ _ _ _ _ _ _ _ _)
set_option maxRecDepth 100000 in
set_option maxHeartbeats 8000000 in
theorem tell_dec_some (s : ByteArray) (w : World) (hs : s.size ≤ 140737488351232) (F : FormS) (x : Int) (hq : readB s = (some F, x)) (v : ByteArray) (hv : (F.vals 35).getD ⟨#[]⟩ = v) :
    Calls Tryd.prog 20 #[.string s] w (TellIs (tellD s) w) := by
  obtain ⟨hx, hF, h0, h35, hv35⟩ := readB_some hq
  subst hx
  have he0 : F.e = 0 := by rw [hF]; rfl
  have hvl : F.vals = valsOf (fieldsB s) := by rw [hF]; rfl
  have hor : F.order.length ≤ 64 := by
    rw [hF]
    show (tagsOf (fieldsB s)).length ≤ 64
    unfold tagsOf
    rw [List.length_map]
    exact fieldsB_len s
  have HZ : Aside0 (∀ y ∈ fieldsB s, y.f1.size ≤ 512) := ⟨fun y hy => (fieldsB_good s y hy).2.2⟩
  have HR := Aside0.mk (read_walk s (w.alloc (.cells #[.int .i64 0, .string ⟨#[]⟩, .string ⟨#[]⟩, .int .i64 0, .int .i64 0, .int .i64 0, .int .i64 0, .int .i64 0, .int .i64 0, .int .i64 0] 23)) hs)
  rw [hq] at HR
  have BK0 := Aside0.mk (blk_new w (.cells #[.int .i64 0, .string ⟨#[]⟩, .string ⟨#[]⟩, .int .i64 0, .int .i64 0, .int .i64 0, .int .i64 0, .int .i64 0, .int .i64 0, .int .i64 0] 23))
  have HB0 : Aside0 (Below w.heap.size w (w.alloc (.cells #[.int .i64 0, .string ⟨#[]⟩, .string ⟨#[]⟩, .int .i64 0, .int .i64 0, .int .i64 0, .int .i64 0, .int .i64 0, .int .i64 0, .int .i64 0] 23))) := ⟨(Below.refl _ _).alloc (Nat.le_refl _) _⟩
  have hws : (w.alloc (.cells #[.int .i64 0, .string ⟨#[]⟩, .string ⟨#[]⟩, .int .i64 0, .int .i64 0, .int .i64 0, .int .i64 0, .int .i64 0, .int .i64 0, .int .i64 0] 23)).heap.size = w.heap.size + 1 := World.size_alloc _ _
  obtain ⟨kd, hkd⟩ : ∃ k, tellKind v = k := ⟨_, rfl⟩
  have hk4 : kd ≤ 4 := hkd ▸ tellKind_le v
  have HWd : Aside0 (∀ i : Nat, 1 ≤ i → i ≤ 4 → ∃ r, tell_word.f (i : Int) = some r ∧ (r = v ↔ kd = i)) := ⟨fun i h1 h4 => by
    have := word_kind v i h1 h4
    rwa [hkd] at this⟩
  have HD0 : Aside0 (kd = 0 → tellD s = (zTell, 35, 120)) := ⟨fun h => tellD_zero hq hv (hkd.trans h)⟩
  have HDb : Aside0 (∀ l F' t x, kd ≠ 0 → asksT (tellSchema kd) (F.mark 35) = (l, F') → doneL F' = (t, x) → x ≠ 0 → tellD s = (zTell, t, x)) := ⟨fun l F' t x h0 ha hd hx => tellD_bad hq hv hkd h0 ha hd hx⟩
  have HDg : Aside0 (∀ l F' t, kd ≠ 0 → asksT (tellSchema kd) (F.mark 35) = (l, F') → doneL F' = (t, 0) → tellD s = (tellOf kd l, 0, 0)) := ⟨fun l F' t h0 ha hd => tellD_good hq hv hkd h0 ha hd⟩
  have HKd := Aside0.mk hk4
  have HV := Aside0.mk hv
  have HE0 := Aside0.mk he0
  have HVl := Aside0.mk hvl
  have HOr := Aside0.mk hor
  clear hF hv35 h35 h0 hq hkd hv he0 hvl hor
  generalize fieldsB s = L at *
  generalize tellD s = res at *
  go_enter Tryd.func20, Tryd.ntmps20
  go_wp2_with (first
    | (go_at_call 58; refine HR.out.mono ?_; rintro en w1 ⟨hb1, g, p, rfl, hf, h1, h2, h3, h4⟩; rw [hws] at h1 h2 h3 h4; have B0 : Aside0 (PrgBox w g p L w.heap.size 23 F 0 (tcells0 0) w1) := ⟨⟨hf, HVl.out, blk_below BK0.out hb1, HB0.out.trans (hb1.mono HB0.out.size), Nat.le_refl _, by omega, by omega, by omega, by omega, by omega, fun a ha => by have := h4 a ha; omega⟩⟩; clear hb1 hf h1 h2 h3 h4 HR BK0 HB0 hws)
    | (go_at_call 59; refine (B0.out.kind (by decide) HE0.out HV.out).mono ?_; rintro en w2 ⟨rfl, hb⟩; have B1 := Aside0.mk hb; clear hb B0))
  go_loopw [7] (fun v7 wr => ∃ i : Nat, v7 = .int .i64 (i : Int) ∧ 1 ≤ i ∧ i ≤ 5 ∧ Aside0 (PrgBox w g p L w.heap.size 23 (F.mark 35) 1 (tcells0 (if kd < i then (kd : Int) else 0)) wr)) (fun v7 _ => 5 - (intOf v7).toNat)
  case atStart => exact ⟨1, rfl, Nat.le_refl _, by omega, ⟨by rw [show (if kd < 1 then (kd : Int) else 0) = 0 by split <;> omega]; exact B1.out⟩⟩
  case round =>
    clear B1
    obtain ⟨i, rfl, hi1, hi5, B⟩ := hrel
    by_cases hlt : i ≤ 4
    · obtain ⟨r, hr, hiff⟩ := HWd.out i hi1 hlt
      have k1 : decide ((i : Int) ≤ 4) = true := by rw [decide_eq_true_eq]; omega
      have HWc : Aside0 (∀ W, Calls Tryd.prog 45 #[.int .i64 (i : Int)] W fun e w' => e = .returned (.string r) ∧ Drawn0 W w') := ⟨fun W => tell_word.calls _ r W hr⟩
      by_cases ce : kd = i
      · obtain rfl : r = v := hiff.2 ce
        have HN : Aside0 ((if kd < i + 1 then (kd : Int) else 0) = (i : Int)) := ⟨by rw [if_pos (by omega), ce]⟩
        clear hr hiff ce
        go_wp2_with (go_at_call 45; refine (HWc.out _).mono ?_; rintro en w3 ⟨rfl, hd⟩; have B2 := Aside0.mk (B.out.below hd.below); clear hd; have c0 : w3.cell? ⟨w.heap.size, 0, none⟩ = some (.int .i64 (if kd < i then (kd : Int) else 0)) := blk_cell B2.out.box 0; have z0 := blk_frozen B2.out.box 0)
        refine ⟨⟨i + 1, by rw [show ((i + 1 : Nat) : Int) = (i : Int) + 1 by omega], by omega, by omega, ⟨by rw [HN.out]; exact B2.out.set 0 (.int .i64 (i : Int))⟩⟩, ?_⟩
        show 5 - ((i : Int) + 1).toNat < 5 - ((i : Int)).toNat
        omega
      · have hne : ¬ r = v := fun g => ce (hiff.1 g)
        have n1 : (r.toList == v.toList) = false := by
          rw [ByteArray.toList_eq, ByteArray.toList_eq, beq_eq_false_iff_ne]
          exact fun e => hne (ba_ext e)
        have HN : Aside0 ((if kd < i + 1 then (kd : Int) else 0) = (if kd < i then (kd : Int) else 0)) := ⟨by
          by_cases q : kd < i
          · rw [if_pos q, if_pos (by omega)]
          · rw [if_neg q, if_neg (by omega)]⟩
        clear hr hiff ce hne
        go_wp2_with (go_at_call 45; refine (HWc.out _).mono ?_; rintro en w3 ⟨rfl, hd⟩; have B2 := Aside0.mk (B.out.below hd.below); clear hd)
        refine ⟨⟨i + 1, by rw [show ((i + 1 : Nat) : Int) = (i : Int) + 1 by omega], by omega, by omega, ⟨by rw [HN.out]; exact B2.out⟩⟩, ?_⟩
        show 5 - ((i : Int) + 1).toNat < 5 - ((i : Int)).toNat
        omega
    · have k1 : decide ((i : Int) ≤ 4) = false := by rw [decide_eq_false_iff_not]; omega
      have hi : i = 5 := by omega
      subst hi
      have B3 : Aside0 (PrgBox w g p L w.heap.size 23 (F.mark 35) 1 (tcells0 (kd : Int)) wr) := ⟨by have := B.out; rwa [if_pos (by have := HKd.out; omega)] at this⟩
      clear B
      have c0 : wr.cell? ⟨w.heap.size, 0, none⟩ = some (.int .i64 (kd : Int)) := blk_cell B3.out.box 0
      by_cases ck : kd = 0
      · have HD := Aside0.mk (HD0.out ck)
        have t1 : ((kd : Int) == 0) = true := by rw [ck]; rfl
        have hbox : wr.heap[w.heap.size]? = some (.cells #[.int .i64 (kd : Int), .string ⟨#[]⟩, .string ⟨#[]⟩, .int .i64 0, .int .i64 0, .int .i64 0, .int .i64 0, .int .i64 0, .int .i64 0, .int .i64 0] 23 (0, 0)) := B3.out.box
        have hcr := fun i => blk_cell hbox i
        have hfr := fun i => blk_frozen hbox i
        have BK := Aside0.mk hbox
        have HLow := Aside0.mk B3.out.low
        clear hbox ck c0
        go_wp2
        refine bodyPost_ret (results_ctt rfl _ _ w.heap.size 23 #[.int .i64 0, .string ⟨#[]⟩, .string ⟨#[]⟩, .int .i64 0, .int .i64 0, .int .i64 0, .int .i64 0, .int .i64 0, .int .i64 0, .int .i64 0] (0, 0) _ rfl (blk_fill10 BK.out _ _ _ _ _ _ _ _ _ _) Tryd.underlying23 rfl (by kernel_rfl)) rfl ?_
        exact TellIs.mk_ (a := zTell) HD.out (low_fill10 HLow.out _ _ _ _ _ _ _ _ _ _)
      · have t1 : ((kd : Int) == 0) = false := by rw [beq_eq_false_iff_ne]; omega
        have HKn := Aside0.mk ck
        have hk1 : 1 ≤ kd := by omega
        have hsl := tell_slots_k kd hk1 HKd.out
        have HRun := Aside0.mk (runT_k kd hk1 HKd.out (F.mark 35))
        have HSl : Aside0 (∀ W, Calls Tryd.prog 46 #[.int .i64 (kd : Int)] W fun e w' => ∃ v0_ : Value, e = .returned (v0_) ∧ Kd.R (Kd.int .i64) 82 w' W.heap.size (fun _ => True) v0_ (slotsN kd) ∧ Below W.heap.size W w') := ⟨fun W => tell_slots.calls _ _ W hsl⟩
        have HSm := Aside0.mk (slotsN_mem kd)
        have hsn := slotsN_len kd
        clear hsl ck hk1
        generalize slotsN kd = sl at *
        go_wp2_with (go_at_call 46; refine (HSl.out _).mono ?_; rintro en w4 ⟨v0, rfl, hR, hb⟩; have B4 := Aside0.mk (B3.out.below hb); have HRb := Aside0.mk (Kd.R_base hR); obtain ⟨As, cs, rfl, hcs, hCs⟩ := Kd.R_reads hR; have HCs := Aside0.mk hCs; have hbs := hb.size; clear hR hb hCs)
        have hgl := B4.out.form.lt
        have HLtg : Aside0 (g < wr.heap.size ∧ p.a < wr.heap.size ∧ w.heap.size < wr.heap.size) := ⟨⟨B3.out.form.lt, B3.out.form.alt, blk_lt B3.out.box⟩⟩
        have hssz : sl.length ≤ 8 := hsn
        clear B3 c0 hgl hbs
        go_loopw [41] (fun v41 wq => ∃ (i k : Nat) (Fi : FormS) (ci : Array Value), v41 = .int .i64 (i : Int) ∧ i ≤ sl.length ∧ k ≤ 1 + i ∧ Aside0 (PrgBox w g p L w.heap.size 23 Fi k ci wq) ∧ Aside0 (Turned (fun j => FormB g p j ∨ j = w.heap.size) w4 wq) ∧ Aside0 (runT (sl.drop i) Fi ci = runT sl (F.mark 35) (tcells0 (kd : Int))) ∧ Aside0 (ci.size = 10 ∧ Fi.order = F.order)) (fun v41 _ => sl.length - (intOf v41).toNat)
        case atStart => exact ⟨0, 1, F.mark 35, tcells0 (kd : Int), rfl, Nat.zero_le _, Nat.le_refl _, B4, ⟨Turned.refl _ _⟩, ⟨rfl⟩, ⟨rfl, rfl⟩⟩
        case round =>
          clear B4
          obtain ⟨i, k, Fi, ci, rfl, hi, hk, B, HT, HA, HS⟩ := hrel
          by_cases hlt : i < sl.length
          · have k1 : decide ((i : Int) < (sl.length : Int)) = true := by rw [decide_eq_true_eq]; omega
            have k2 : (0 : Int) ≤ (i : Int) ∧ (i : Int) < (sl.length : Int) := by omega
            have hti : ((i : Int)).toNat = i := Int.toNat_natCast i
            obtain ⟨ad, hA, q0⟩ := Kd.at_int HCs.out (i : Int) (by omega) (by omega)
            have hrd : rd sl (i : Int) = sl[i] := by unfold rd; rw [Int.toNat_natCast, List.getD_eq_getElem?_getD, List.getElem?_eq_getElem hlt]; rfl
            rw [hti, hrd] at q0
            have hbase := HRb.out ad.block (by rw [hA]; rfl)
            have hl3 := HLtg.out
            have hq := HT.out.cell q0 (fun e => by rw [add_block] at e; rcases e with (e | e) | e <;> omega)
            subst hA
            have hx := HSm.out _ (List.getElem_mem hlt)
            rw [List.drop_eq_getElem_cons hlt, runT_cons] at HA
            clear q0 hrd hbase hl3
            generalize sl[i] = x at *
            by_cases hxn : x = 0 ∨ x = 1
            · obtain ⟨t, j, hask, hpl, hoff, hj, ht, hname⟩ := askOf_name x hxn
              obtain ⟨v1, F1, E1⟩ : ∃ v F', askL takeName ⟨#[]⟩ Fi t = (v, F') := ⟨_, _, rfl⟩
              have HAn : Aside0 (runT (sl.drop (i + 1)) F1 (ci.setIfInBounds j (.string v1)) = runT sl (F.mark 35) (tcells0 (kd : Int))) := ⟨by
                have h := HA.out
                rw [hask, askT_name, E1, hoff] at h
                exact h⟩
              have HPl : Aside0 (∀ W, Calls Tryd.prog 47 #[.int .i64 x] W fun e w' => e = .returned (.agg #[.int .i64 t, .int .i64 0]) ∧ Below W.heap.size W w') := ⟨fun W => tell_placeOf.calls x t 0 W hpl⟩
              have HNm := Aside0.mk hname
              have HE := Aside0.mk E1
              have HO1 : Aside0 (F1.order = F.order) := ⟨by
                have h := askL_order takeName ⟨#[]⟩ Fi t
                rw [E1] at h
                exact h.trans HS.out.2⟩
              obtain ⟨old, hold⟩ : ∃ u, ci[j]? = some u := ⟨_, Array.getElem?_eq_getElem (by have := HS.out.1; omega)⟩
              have HSz : Aside0 ((ci.setIfInBounds j (.string v1)).size = 10) := ⟨by rw [Array.size_setIfInBounds]; exact HS.out.1⟩
              have HOld := Aside0.mk hold
              have hk1 : k ≤ 1000 := by omega
              clear HA hask hpl hoff hname E1 hxn hold
              go_wp2_with (first
                | (go_at_call 47; refine (HPl.out _).mono ?_; rintro en w5 ⟨rfl, hb5⟩; have hal : Below w5.heap.size w5 (w5.alloc (.cells #[.int .i64 t, .int .i64 0] 84)) := (Below.refl _ _).alloc (Nat.le_refl _) _; have B6 := Aside0.mk ((B.out.below hb5).below hal); have HT6 := Aside0.mk ((HT.out.trans (Turned.of_below hb5)).trans (Turned.of_below hal)); clear hb5 hal)
                | (go_at_call 48; refine (HNm.out _ _).mono ?_; rintro en w6 ⟨rfl, hh⟩; obtain rfl := hh.symm; clear hh)
                | (go_at_call 60; refine (B6.out.name HE.out ht hk1 HZ.out).mono ?_; rintro en w7 ⟨rfl, hb7, ht7⟩; have B7 := Aside0.mk (hb7.set j (.string v1)); have HT7 := Aside0.mk ((HT6.out.trans (ht7.imp (fun _ h => .inl h))).setCell (p := ⟨w.heap.size, j, none⟩) (.inr rfl) (.string v1)); have c7 : w7.cell? ⟨w.heap.size, j, none⟩ = some old := (blk_cell hb7.box j).trans HOld.out; have z7 := blk_frozen hb7.box j; clear hb7 ht7 B6 HT6))
              refine ⟨⟨i + 1, k + 1, F1, _, by rw [show ((i + 1 : Nat) : Int) = (i : Int) + 1 by omega], by omega, by omega, B7, HT7, HAn, ⟨HSz.out, HO1.out⟩⟩, ?_⟩
              show sl.length - ((i : Int) + 1).toNat < sl.length - ((i : Int)).toNat
              omega
            · have hx210 : 2 ≤ x ∧ x ≤ 10 := by omega
              obtain ⟨t, m, hask, hpl, ho3, ho9, ht⟩ := askOf_int x hx210
              obtain ⟨v1, F1, E1⟩ : ∃ v F', askL (fun s => takeInt s 0 m) 0 Fi t = (v, F') := ⟨_, _, rfl⟩
              have HAn : Aside0 (runT (sl.drop (i + 1)) F1 (ci.setIfInBounds (offT x) (.int .i64 v1)) = runT sl (F.mark 35) (tcells0 (kd : Int))) := ⟨by
                have h := HA.out
                rw [hask, askT_int, E1] at h
                exact h⟩
              have HPl : Aside0 (∀ W, Calls Tryd.prog 47 #[.int .i64 x] W fun e w' => e = .returned (.agg #[.int .i64 t, .int .i64 m]) ∧ Below W.heap.size W w') := ⟨fun W => tell_placeOf.calls x t m W hpl⟩
              have HE := Aside0.mk E1
              have HO1 : Aside0 (F1.order = F.order) := ⟨by
                have h := askL_order (fun s => takeInt s 0 m) 0 Fi t
                rw [E1] at h
                exact h.trans HS.out.2⟩
              obtain ⟨old, hold⟩ : ∃ u, ci[offT x]? = some u := ⟨_, Array.getElem?_eq_getElem (by have := HS.out.1; omega)⟩
              have HSz : Aside0 ((ci.setIfInBounds (offT x) (.int .i64 v1)).size = 10) := ⟨by rw [Array.size_setIfInBounds]; exact HS.out.1⟩
              have hk1 : k ≤ 1000 := by omega
              have HNn := tell_name_n w.heap.size x hx210.1
              have HNm := Aside0.mk HNn
              clear HA hask hpl E1 hxn HNn
              go_wp2_with (first
                | (go_at_call 47; refine (HPl.out _).mono ?_; rintro en w5 ⟨rfl, hb5⟩; have hal : Below w5.heap.size w5 (w5.alloc (.cells #[.int .i64 t, .int .i64 m] 84)) := (Below.refl _ _).alloc (Nat.le_refl _) _; have B5 := Aside0.mk (B.out.below hb5); have B6d : Aside0 (PrgBox w g p L w.heap.size 23 Fi k ci (w5.alloc (.cells #[.int .i64 t, .int .i64 m] 84)).drew) := ⟨B5.out.below (below_drew1 hal)⟩; have HT6 : Aside0 (Turned (fun j => FormB g p j ∨ j = w.heap.size) w4 (w5.alloc (.cells #[.int .i64 t, .int .i64 m] 84)).drew) := ⟨((HT.out.trans (Turned.of_below hb5)).trans (Turned.of_below hal)).drew⟩; clear hb5 hal)
                | (go_at_call 48; refine (HNm.out _).mono ?_; rintro en w6 ⟨rfl, hh⟩; obtain rfl := hh.symm; clear hh))
              have hnb : ¬ FormB g p w5.heap.size := by
                have q1 := B5.out.form.lt
                have q2 := B5.out.form.alt
                intro e
                rcases e with e | e <;> omega
              have hp0 : (w5.alloc (.cells #[.int .i64 t, .int .i64 m] 84)).cell? ⟨w5.heap.size, 0, none⟩ = some (.int .i64 t) := by simp [go_sem]
              have hp1 : (w5.alloc (.cells #[.int .i64 t, .int .i64 m] 84)).cell? ⟨w5.heap.size, 1, none⟩ = some (.int .i64 m) := by simp [go_sem]
              refine start_ (n := 10) (S := fun w' => w'.cell? ⟨w5.heap.size, 0, none⟩ = some (.int .i64 t) ∧ w'.cell? ⟨w5.heap.size, 1, none⟩ = some (.int .i64 m)) (ds := [9]) #[false, false, false, false, false, false, false, false, false, false] (by kernel_rfl) rfl rfl ⟨hp0, hp1⟩ (fun hHeld => ?_)
              refine pure_ (i := 0) (N := some 57) (v := ?_) (a' := ?_) #[true, false, false, false, false, false, false, false, false, false] rfl rfl (by kernel_rfl) (fun _ _ _ h => h) (Or.inl ⟨by rfl, ?_⟩) ?_ ?_
              rotate_left
              · intro w'
                go_simp
                with_reducible rfl
              rotate_left
              · simp only [Act.put, List.setIfInBounds_toArray, List.set_cons_zero, List.set_cons_succ, i64_w, i32_w]
                rfl
              refine pure_ (i := 2) (N := some 59) (v := ?_) (a' := ?_) #[true, false, true, false, false, false, false, false, false, false] rfl rfl (by kernel_rfl) (fun _ _ _ h => h) (Or.inl ⟨by rfl, ?_⟩) ?_ ?_
              rotate_left
              · intro w'
                go_simp
                with_reducible rfl
              rotate_left
              · simp only [Act.put, List.setIfInBounds_toArray, List.set_cons_zero, List.set_cons_succ, i64_w, i32_w]
                rfl
              refine pure_ (i := 3) (N := some 60) (v := ?_) (a' := ?_) #[true, false, true, true, false, false, false, false, false, false] rfl rfl (by kernel_rfl) (fun _ _ _ h => h) (Or.inl ⟨by rfl, ?_⟩) ?_ ?_
              rotate_left
              · intro w'
                go_simp
                with_reducible rfl
              rotate_left
              · simp only [Act.put, List.setIfInBounds_toArray, List.set_cons_zero, List.set_cons_succ, i64_w, i32_w]
                rfl
              refine pure_ (i := 5) (N := some 62) (v := ?_) (a' := ?_) #[true, false, true, true, false, true, false, false, false, false] rfl rfl (by kernel_rfl) (fun _ _ _ h => h) (Or.inl ⟨by rfl, ?_⟩) ?_ ?_
              rotate_left
              · intro w'
                go_simp
                with_reducible rfl
              rotate_left
              · simp only [Act.put, List.setIfInBounds_toArray, List.set_cons_zero, List.set_cons_succ, i64_w, i32_w]
                rfl
              refine take_ (i := 4) (N := some 61) (v := ?_) (a' := ?_) #[true, false, true, true, true, true, false, false, false, false] rfl rfl (by kernel_rfl) (fun _ _ _ h => h) (Or.inl ⟨by rfl, ?_⟩) hHeld ?_ ?_
              rotate_left
              · rintro w' ⟨s0, s1⟩
                go_simp
                with_reducible rfl
              rotate_left
              · simp only [Act.put, List.setIfInBounds_toArray, List.set_cons_zero, List.set_cons_succ, i64_w, i32_w]
                rfl
              refine take_ (i := 6) (N := some 63) (v := ?_) (a' := ?_) #[true, false, true, true, true, true, true, false, false, false] rfl rfl (by kernel_rfl) (fun _ _ _ h => h) (Or.inl ⟨by rfl, ?_⟩) hHeld ?_ ?_
              rotate_left
              · rintro w' ⟨s0, s1⟩
                go_simp
                with_reducible rfl
              rotate_left
              · simp only [Act.put, List.setIfInBounds_toArray, List.set_cons_zero, List.set_cons_succ, i64_w, i32_w]
                rfl
              refine one_ (i := 1) (N := some 58) #[true, true, true, true, true, true, true, false, false, false] rfl rfl (by kernel_rfl) (by decide) (fun K hK => ?_)
              refine goes_ Tryd.func50 (by kernel_rfl) rfl #[.pointer (some ⟨w.heap.size, 0, none⟩), .int .i64 x] (by rfl) rfl rfl (by simp only [List.map_toArray, List.map_cons, List.map_nil]; rfl) ?_
              with_reducible refine (tell_number_x w.heap.size x hx210 _).mono ?_
              rintro e w2 ⟨rfl, rfl⟩
              refine ⟨_, rfl, ?_⟩
              refine hK.out _ _ ⟨hHeld.1, hHeld.2⟩ (fun hHeld => ?_)
              clear hK K
              refine norm_ (a' := ?_) ?_ ?_
              rotate_left
              · show Act.put _ (some 58) _ = _
                simp only [Act.put, List.setIfInBounds_toArray, List.set_cons_zero, List.set_cons_succ, i64_w, i32_w]
                rfl
              refine one_ (i := 7) (N := some 64) #[true, true, true, true, true, true, true, true, false, false] rfl rfl (by kernel_rfl) (by decide) (fun K hK => ?_)
              refine goes_ Tryd.func61 (by kernel_rfl) rfl #[.pointer (some ⟨g, 0, none⟩), .int .i64 t, .int .i64 0, .int .i64 m] (by rfl) rfl rfl (by simp only [List.map_toArray, List.map_cons, List.map_nil]; rfl) ?_
              with_reducible refine (B6d.out.int HE.out ht hk1 HZ.out).mono ?_
              rintro e w7 ⟨rfl, hb7, ht7⟩
              refine ⟨_, rfl, ?_⟩
              have B7 := Aside0.mk (hb7.set (offT x) (.int .i64 v1))
              have HT7 := Aside0.mk ((HT6.out.trans (ht7.imp (fun _ h => .inl h))).setCell (p := ⟨w.heap.size, offT x, none⟩) (.inr rfl) (.int .i64 v1))
              have c7 : w7.cell? ⟨w.heap.size, offT x, none⟩ = some old := (blk_cell hb7.box (offT x)).trans hold
              have z7 := blk_frozen hb7.box (offT x)
              refine hK.out _ _ ⟨ht7.cell hHeld.1 hnb, ht7.cell hHeld.2 hnb⟩ (fun hHeld => ?_)
              clear hK K
              refine norm_ (a' := ?_) ?_ ?_
              rotate_left
              · show Act.put _ (some 64) _ = _
                simp only [Act.put, List.setIfInBounds_toArray, List.set_cons_zero, List.set_cons_succ, i64_w, i32_w]
                rfl
              refine pure_ (i := 8) (N := some 65) (v := ?_) (a' := ?_) #[true, true, true, true, true, true, true, true, true, false] rfl rfl (by kernel_rfl) (fun _ _ _ h => h) (Or.inl ⟨by rfl, ?_⟩) ?_ ?_
              rotate_left
              · intro w'
                go_simp
                with_reducible rfl
              rotate_left
              · simp only [Act.put, List.setIfInBounds_toArray, List.set_cons_zero, List.set_cons_succ, i64_w, i32_w]
                rfl
              refine last_ (i := 9) (N := none) #[true, true, true, true, true, true, true, true, true, true] rfl rfl (by kernel_rfl) (by decide) (fun K hK => ?_)
              refine skip_ (w1 := ?_) (by rfl) rfl ?_ ?_
              rotate_left
              · go_simp
                rfl
              refine hK.out _ _ ?_
              clear hK K
              refine done_ (by kernel_rfl) ?_

              go_wp2
              refine ⟨⟨i + 1, k + 1, F1, _, by rw [show ((i + 1 : Nat) : Int) = (i : Int) + 1 by omega], by omega, by omega, B7, HT7, HAn, ⟨HSz.out, HO1.out⟩⟩, ?_⟩
              show sl.length - ((i : Int) + 1).toNat < sl.length - ((i : Int)).toNat
              omega
          · have k1 : decide ((i : Int) < (sl.length : Int)) = false := by rw [decide_eq_false_iff_not]; omega
            have hfin : runT sl (F.mark 35) (tcells0 (kd : Int)) = (ci, Fi) := by
              have h := HA.out
              rw [List.drop_eq_nil_of_le (by omega)] at h
              exact h.symm
            have hrr := HRun.out
            rw [hfin] at hrr
            simp only [Prod.mk.injEq] at hrr
            obtain ⟨hci, hFi⟩ := hrr
            obtain ⟨td, xd, ED⟩ : ∃ t x, doneL Fi = (t, x) := ⟨_, _, rfl⟩
            obtain ⟨vl, hvl⟩ : ∃ l, (asksT (tellSchema kd) (F.mark 35)).1 = l := ⟨_, rfl⟩
            have hasks : asksT (tellSchema kd) (F.mark 35) = (vl, Fi) := Prod.ext hvl hFi.symm
            rw [hvl] at hci
            obtain ⟨tv, htv⟩ : ∃ a, tellOf kd vl = a := ⟨_, rfl⟩
            rw [htv] at hci
            subst hci
            have HOl : Aside0 (Fi.order.length ≤ 1000) := ⟨by rw [HS.out.2]; have := HOr.out; omega⟩
            have HED := Aside0.mk ED
            by_cases hxd : xd = 0
            · subst hxd
              have HD : Aside0 (res = (tv, 0, 0)) := ⟨by rw [← htv]; exact HDg.out vl Fi td HKn.out hasks ED⟩
              clear hfin hFi hvl hasks htv ED HA
              go_wp2_with (go_at_call 62; refine (B.out.done HOl.out HED.out).mono ?_; rintro en w8 ⟨rfl, hb⟩; have hbox : w8.heap[w.heap.size]? = some (.cells #[.int .i64 (tv.f0), .string (tv.f1), .string (tv.f2), .int .i64 (tv.f3), .int .i64 (tv.f4), .int .i64 (tv.f5), .int .i64 (tv.f6), .int .i64 (tv.f7), .int .i64 (tv.f8), .int .i64 (tv.f9)] 23 (0, 0)) := hb.box; have hcr := fun i => blk_cell hbox i; have hfr := fun i => blk_frozen hbox i; have BK := Aside0.mk hbox; have HLow := Aside0.mk hb.low; clear hb hbox)
              refine bodyPost_ret (results_ctt rfl _ _ w.heap.size 23 #[.int .i64 (tv.f0), .string (tv.f1), .string (tv.f2), .int .i64 (tv.f3), .int .i64 (tv.f4), .int .i64 (tv.f5), .int .i64 (tv.f6), .int .i64 (tv.f7), .int .i64 (tv.f8), .int .i64 (tv.f9)] (0, 0) _ rfl (blk_fill10 BK.out _ _ _ _ _ _ _ _ _ _) Tryd.underlying23 rfl (by kernel_rfl)) rfl ?_
              exact TellIs.mk_ (a := tv) HD.out (low_fill10 HLow.out _ _ _ _ _ _ _ _ _ _)
            · have HD : Aside0 (res = (zTell, td, xd)) := ⟨HDb.out vl Fi td xd HKn.out hasks ED hxd⟩
              have t2 : (xd != 0) = true := by rw [bne_iff_ne]; exact hxd
              clear hfin hFi hvl hasks htv ED HA hxd
              go_wp2_with (go_at_call 62; refine (B.out.done HOl.out HED.out).mono ?_; rintro en w8 ⟨rfl, hb⟩; have hbox : w8.heap[w.heap.size]? = some (.cells #[.int .i64 (tv.f0), .string (tv.f1), .string (tv.f2), .int .i64 (tv.f3), .int .i64 (tv.f4), .int .i64 (tv.f5), .int .i64 (tv.f6), .int .i64 (tv.f7), .int .i64 (tv.f8), .int .i64 (tv.f9)] 23 (0, 0)) := hb.box; have hcr := fun i => blk_cell hbox i; have hfr := fun i => blk_frozen hbox i; have BK := Aside0.mk hbox; have HLow := Aside0.mk hb.low; clear hb hbox)
              refine bodyPost_ret (results_ctt rfl _ _ w.heap.size 23 #[.int .i64 0, .string ⟨#[]⟩, .string ⟨#[]⟩, .int .i64 0, .int .i64 0, .int .i64 0, .int .i64 0, .int .i64 0, .int .i64 0, .int .i64 0] (0, 0) _ rfl (blk_fill10 BK.out _ _ _ _ _ _ _ _ _ _) Tryd.underlying23 rfl (by kernel_rfl)) rfl ?_
              exact TellIs.mk_ (a := zTell) HD.out (low_fill10 HLow.out _ _ _ _ _ _ _ _ _ _)
theorem tell_Decode_walk (s : ByteArray) (w : World) (hs : s.size ≤ 140737488351232) :
    Calls Tryd.prog 20 #[.string s] w (TellIs (tellD s) w) := by
  rcases hr : readB s with ⟨F, x⟩
  cases F with
  | none =>
    refine tell_dec_none s w hs x hr ?_
    intro e
    subst e
    unfold readB at hr
    split at hr
    · rename_i g; simp only [Prod.mk.injEq, true_and] at hr; omega
    split at hr
    · simp at hr
    split at hr <;> simp at hr
  | some F => exact tell_dec_some s w hs F x hr _ rfl
def tell_Decode.f (a0 : ByteArray) : Option (Int × ByteArray × ByteArray × Int × Int × Int × Int × Int × Int × Int × Int × Int) := if a0.size ≤ 140737488351232 then some (flatT (tellD a0)) else none
theorem tell_Decode.calls (a0 : ByteArray) (r1 : Int) (r2 : ByteArray) (r3 : ByteArray) (r4 r5 r6 r7 r8 r9 r10 r11 r12 : Int) (w : World) (h : tell_Decode.f a0 = some (r1, r2, r3, r4, r5, r6, r7, r8, r9, r10, r11, r12)) :
    Calls Tryd.prog 20 #[.string a0] w fun e w' => e = .returned (.tuple #[.agg #[.int .i64 r1, .string r2, .string r3, .int .i64 r4, .int .i64 r5, .int .i64 r6, .int .i64 r7, .int .i64 r8, .int .i64 r9, .int .i64 r10], .int .i64 r11, .int .i64 r12]) ∧ Below w.heap.size w w' := by
  unfold tell_Decode.f at h
  by_cases c : a0.size ≤ 140737488351232
  · rw [if_pos c] at h
    have hw := tell_Decode_walk a0 w c
    unfold flatT at h
    simp only [Option.some.injEq, Prod.mk.injEq] at h
    obtain ⟨rfl, rfl, rfl, rfl, rfl, rfl, rfl, rfl, rfl, rfl, rfl, rfl⟩ := h
    exact hw
  · rw [if_neg c] at h; cases h
end Go.Proofs.YtgfigkfcmkdjdaaDoor.B
end
