/- The functions that the law reaches, as plain Lean functions, and their contracts: texts merged. -/
import Derived.Laws.StructEq
import Derived.Test.YtgfigkfcmkdjdaaGreatDoorzAskDecodes2
import Derived.Test.YtgfigkfcmkdjdaaGreatDoorzAskDecodes0
import Derived.Test.YtgfigkfcmkdjdaaGreatDoorzAskDecodes1
import Derived.Test.YtgfigkfcmkdjdaaGreatDoorzAskDecodes3
import Derived.Test.YtgfigkfcmkdjdaaGreatDoorzAskDecodes4
import Derived.Test.YtgfigkfcmkdjdaaGreatDoorzAskDecodes5
import Derived.Test.YtgfigkfcmkdjdaaGreatDoorzAskDecodes6
import Derived.Test.YtgfigkfcmkdjdaaGreatDoorzAskDecodes15
import Derived.Test.YtgfigkfcmkdjdaaGreatDoorzAskDecodes16
import Derived.Test.YtgfigkfcmkdjdaaGreatDoorzAskDecodes17
import Derived.Test.YtgfigkfcmkdjdaaGreatDoorzAskDecodes18
import Derived.Test.YtgfigkfcmkdjdaaGreatDoorzAskDecodes19
import Derived.Test.YtgfigkfcmkdjdaaGreatDoorzAskDecodes20
section
namespace Go.Proofs.YtgfigkfcmkdjdaaGreatDoor.B
open Go.RowKit Go.Proofs.YtgfigkfcmkdjdaaGreatDoorW.PrintWords Go.Proofs.YtgfigkfcmkdjdaaGreatDoorW.PrintLast Go.Proofs.YtgfigkfcmkdjdaaGreatDoorW.PrintMore
attribute [local go_sem] max2_int min2_int max_two min_two max_three min_three max_four min_four   -- for this text's walks alone
set_option linter.unusedVariables false
set_option linter.unusedSimpArgs false
def refF (x : S74) : S84 := ⟨x.f0, x.f1⟩
theorem rdR_at (l : List S74) (i : Nat) (h : i < l.length) : rd_T84 (l.map refF) (i : Int) = refF l[i] := by simp [rd_T84, h]
structure RefIs (X : Nat → Prop) (g : Nat) (A : Option Addr) (c : Nat) (L : List S74) (F : FormS) (k : Nat) (w : World) : Prop where
  c0 : w.cell? ⟨g, 0, none⟩ = some (.slice A L.length c)
  c1 : ∃ v ak, w.cell? ⟨g, 1, none⟩ = some v ∧ Kd.R (Kd.int .i64) 3 w 0 (fun j => ¬ X j ∧ j ≠ g) v ak ∧ ak.length ≤ k ∧ ∀ t, F.asked t = decide (t ∈ ak)
  c2 : w.cell? ⟨g, 2, none⟩ = some (.int .i64 F.tag)
  c3 : w.cell? ⟨g, 3, none⟩ = some (.int .i64 F.e)
  l1 : w.frozen? ⟨g, 1, none⟩ = false
  l2 : w.frozen? ⟨g, 2, none⟩ = false
  l3 : w.frozen? ⟨g, 3, none⟩ = false
  low : ∃ w0 : World, w0.heap.size ≤ g ∧ Below w0.heap.size w0 w ∧ Kd.C k84 w0 A L.length (L.map refF)
  lc : L.length ≤ c
  vals : F.vals = valsOf L
  order : F.order = tagsOf L
  lt : ∀ j, X j → j < w.heap.size
  gx : ¬ X g
  xl : ∀ j, j < g → X j
section
variable {X : Nat → Prop} {g : Nat} {A : Option Addr} {c : Nat} {L : List S74} {F : FormS} {k : Nat} {w w' : World}
theorem RefIs.glt (h : RefIs X g A c L F k w) : g < w.heap.size := World.block_lt_of_cell? w _ h.c0
theorem RefIs.row (h : RefIs X g A c L F k w) : Kd.C k84 w A L.length (L.map refF) := by
  obtain ⟨w0, _, hb, hC⟩ := h.low
  exact Kd.C_below hC hb
theorem RefIs.low_to (h : RefIs X g A c L F k w) (hos : w'.os = w.os) (ht : w'.tape = w.tape) (ho : w'.output = w.output) (hs : w.heap.size ≤ w'.heap.size) (hb : ∀ j, j < g → w'.heap[j]? = w.heap[j]?) : ∃ w0 : World, w0.heap.size ≤ g ∧ Below w0.heap.size w0 w' ∧ Kd.C k84 w0 A L.length (L.map refF) := by
  obtain ⟨w0, h1, h2, hC⟩ := h.low
  exact ⟨w0, h1, h2.trans ⟨hos, ht, ho, hs, fun j hj => hb j (by omega)⟩, hC⟩
theorem RefIs.turned {S : Nat → Prop} (h : RefIs X g A c L F k w) (ht : Turned S w w') (hg : ¬ S g) (hx : ∀ j, S j → X j) (hl : ∀ j, S j → g ≤ j) : RefIs X g A c L F k w' := by
  have hgb := ht.block g h.glt hg
  obtain ⟨v, ak, h1, h2, h3, h4⟩ := h.c1
  refine ⟨ht.cell h.c0 hg, ⟨v, ak, ht.cell h1 hg, Kd.R_step h2 (fun j hj hlt => ht.block j hlt (fun hs => hj.1 (hx j hs))), h3, h4⟩, ht.cell h.c2 hg, ht.cell h.c3 hg, ?_, ?_, ?_, h.low_to ht.os ht.tape ht.output ht.size (fun j hj => ht.block j (by have := h.glt; omega) (fun hs => by have := hl j hs; omega)), h.lc, h.vals, h.order, fun j hj => Nat.lt_of_lt_of_le (h.lt j hj) ht.size, h.gx, h.xl⟩
  · exact (World.frozen?_of_block (w := w) (a := ⟨g, 1, none⟩) hgb).trans h.l1
  · exact (World.frozen?_of_block (w := w) (a := ⟨g, 2, none⟩) hgb).trans h.l2
  · exact (World.frozen?_of_block (w := w) (a := ⟨g, 3, none⟩) hgb).trans h.l3
theorem RefIs.below (h : RefIs X g A c L F k w) (hb : Below w.heap.size w w') : RefIs X g A c L F k w' :=
  h.turned (Turned.of_below (S := fun _ => False) hb) (fun x => x) (fun _ x => x.elim) (fun _ x => x.elim)
theorem RefIs.mono {k' : Nat} (h : RefIs X g A c L F k w) (hk : k ≤ k') : RefIs X g A c L F k' w := by
  obtain ⟨v, ak, h1, h2, h3, h4⟩ := h.c1
  exact ⟨h.c0, ⟨v, ak, h1, h2, Nat.le_trans h3 hk, h4⟩, h.c2, h.c3, h.l1, h.l2, h.l3, h.low, h.lc, h.vals, h.order, h.lt, h.gx, h.xl⟩
theorem RefIs.guard (h : RefIs X g A c L F k w) (o : Obj) : RefIs (fun j => X j ∨ j = w.heap.size) g A c L F k (w.alloc o) := by
  have hB : Below w.heap.size w (w.alloc o) := (Below.refl _ _).alloc (Nat.le_refl _) _
  have h' := h.below hB
  obtain ⟨v, ak, h1, h2, h3, h4⟩ := h.c1
  have hlt := h.glt
  refine ⟨h'.c0, ⟨v, ak, (World.cell?_of_block (w := w) (hB.block g hlt)).trans h1, ?_, h3, h4⟩, h'.c2, h'.c3, h'.l1, h'.l2, h'.l3, h'.low, h'.lc, h'.vals, h'.order, fun j hj => ?_, fun e => e.elim h.gx (fun e => by omega), fun j hj => .inl (h.xl j hj)⟩
  · refine Kd.R_mono (Kd.R_step (Kd.R_bound h2) (fun j hj hlt => hB.block j hlt)) (fun j hj => ?_)
    refine ⟨fun e => e.elim hj.1.1 (fun e => by have := hj.2.2.1; omega), hj.1.2⟩
  · rw [World.size_alloc]
    rcases hj with hj | hj
    · have := h.lt j hj; omega
    · omega
theorem RefIs.fail (h : RefIs X g A c L F k w) (t e : Int) :
    RefIs X g A c L (F.fail t e) k ((w.setCell ⟨g, 2, none⟩ (.int .i64 t)).setCell ⟨g, 3, none⟩ (.int .i64 e)) ∧ Turned (fun j => ¬ X j) w ((w.setCell ⟨g, 2, none⟩ (.int .i64 t)).setCell ⟨g, 3, none⟩ (.int .i64 e)) := by
  have ht : Turned (fun x => x = g) w ((w.setCell ⟨g, 2, none⟩ (.int .i64 t)).setCell ⟨g, 3, none⟩ (.int .i64 e)) := Turned.setCell (S := fun x => x = g) (Turned.setCell (S := fun x => x = g) (Turned.refl _ _) (p := ⟨g, 2, none⟩) rfl _) (p := ⟨g, 3, none⟩) rfl _
  have o1 : ∀ (i : Nat) (v : Value), i < 2 → w.cell? ⟨g, i, none⟩ = some v → ((w.setCell ⟨g, 2, none⟩ (.int .i64 t)).setCell ⟨g, 3, none⟩ (.int .i64 e)).cell? ⟨g, i, none⟩ = some v := fun i v hi hv =>
    (World.cell?_setCell_other _ _ _ _ (by intro e; injection e; omega)).trans ((World.cell?_setCell_other _ _ _ _ (by intro e; injection e; omega)).trans hv)
  obtain ⟨v, ak, h1, h2, h3, h4⟩ := h.c1
  have hgt := h.glt
  refine ⟨⟨o1 0 _ (by omega) h.c0, ⟨v, ak, o1 1 _ (by omega) h1, Kd.R_step h2 (fun j hj hlt => ht.block j hlt (fun hs => hj.2 hs)), h3, h4⟩, ?_, ?_, ?_, ?_, ?_, h.low_to ht.os ht.tape ht.output ht.size (fun j hj => ht.block j (by omega) (by omega)), h.lc, h.vals, h.order, fun j hj => Nat.lt_of_lt_of_le (h.lt j hj) ht.size, h.gx, h.xl⟩, ⟨ht.os, ht.tape, ht.output, ht.size, fun j hj hn => ht.block j hj (fun e => hn (e ▸ h.gx))⟩⟩
  · exact (World.cell?_setCell_other _ _ _ _ (by simp)).trans (World.cell?_setCell_same _ _ _ h.c2)
  · exact World.cell?_setCell_same _ _ _ ((World.cell?_setCell_other _ _ _ _ (by simp)).trans h.c3)
  · rw [World.frozen?_setCell, World.frozen?_setCell]; exact h.l1
  · rw [World.frozen?_setCell, World.frozen?_setCell]; exact h.l2
  · rw [World.frozen?_setCell, World.frozen?_setCell]; exact h.l3
theorem RefIs.ask (h : RefIs X g A c L F k w) {v v1 : Value} {ak : List Int} {t : Int} {w1 : World} (hR : Kd.R (Kd.int .i64) 3 w 0 (fun j => ¬ X j ∧ j ≠ g) v ak) (hk : ak.length ≤ k) (hask : ∀ t, F.asked t = decide (t ∈ ak))
    (hR1 : Kd.R (Kd.int .i64) 3 w1 0 (fun j => ¬ X j ∧ j ≠ g) v1 (ak ++ [t])) (hg1 : w.grownBy w1 v.ownBlock) :
    RefIs X g A c L (F.mark t) (k + 1) (w1.setCell ⟨g, 1, none⟩ v1) ∧ Turned (fun j => ¬ X j) w (w1.setCell ⟨g, 1, none⟩ v1) := by
  have hown : ∀ b, v.ownBlock = some b → ¬ X b ∧ b ≠ g := hR.1
  have ht1 : Turned (fun j => ¬ X j ∧ j ≠ g) w w1 := Turned.of_grown' hg1 hown
  have hne : some g ≠ v.ownBlock := fun e => (hown g e.symm).2 rfl
  have hgb := ht1.block g h.glt (fun e => e.2 rfl)
  have hsz := ht1.size
  have hgt := h.glt
  have hset : ∀ (j : Nat), j ≠ g → (w1.setCell ⟨g, 1, none⟩ v1).heap[j]? = w1.heap[j]? := fun j hj => Below.heap_setCell _ _ _ _ hj
  have hss : (w1.setCell ⟨g, 1, none⟩ v1).heap.size = w1.heap.size := World.size_setCell _ _ _
  have o1 : ∀ (i : Nat) (u : Value), i ≠ 1 → w.cell? ⟨g, i, none⟩ = some u → (w1.setCell ⟨g, 1, none⟩ v1).cell? ⟨g, i, none⟩ = some u := fun i u hi hu =>
    (World.cell?_setCell_other _ _ _ _ (by intro e; injection e; omega)).trans ((World.cell?_of_block (w := w) (a := ⟨g, i, none⟩) hgb).trans hu)
  obtain ⟨v0, as0, h1, _⟩ := h.c1
  refine ⟨⟨o1 0 _ (by omega) h.c0, ⟨v1, ak ++ [t], World.cell?_setCell_same _ _ _ ((World.cell?_of_block (w := w) (a := ⟨g, 1, none⟩) hgb).trans h1), Kd.R_step hR1 (fun j hj _ => hset j hj.2), by rw [List.length_append]; show ak.length + 1 ≤ k + 1; omega, fun x => ?_⟩, o1 2 _ (by omega) h.c2, o1 3 _ (by omega) h.c3, ?_, ?_, ?_, h.low_to ht1.os ht1.tape ht1.output (by rw [hss]; exact hsz) (fun j hj => (hset j (by omega)).trans (ht1.block j (by omega) (fun e => e.1 (h.xl j hj)))), h.lc, h.vals, h.order, fun j hj => by rw [hss]; exact Nat.lt_of_lt_of_le (h.lt j hj) hsz, h.gx, h.xl⟩, ⟨ht1.os, ht1.tape, ht1.output, by rw [hss]; exact hsz, fun j hj hn => ?_⟩⟩
  · show (if x = t then true else F.asked x) = _
    rw [hask x]
    by_cases e : x = t
    · rw [if_pos e, decide_eq_true (by rw [e]; simp)]
    · rw [if_neg e, decide_eq_decide]; simp [e]
  · rw [World.frozen?_setCell]; exact (World.frozen?_of_block (w := w) (a := ⟨g, 1, none⟩) hgb).trans h.l1
  · rw [World.frozen?_setCell]; exact (World.frozen?_of_block (w := w) (a := ⟨g, 2, none⟩) hgb).trans h.l2
  · rw [World.frozen?_setCell]; exact (World.frozen?_of_block (w := w) (a := ⟨g, 3, none⟩) hgb).trans h.l3
  · have hXj : X j := Classical.not_not.1 hn
    have hjg : j ≠ g := fun e => h.gx (e ▸ hXj)
    exact (hset j hjg).trans (ht1.block j hj (fun e => e.1 hXj))
end
def findJ : List S74 → Int → Nat → Int
  | [], _, _ => -1
  | x :: r, t, i => if x.f0 = t then (i : Int) else findJ r t (i + 1)
theorem findJ_cons (x : S74) (r : List S74) (t : Int) (i : Nat) : findJ (x :: r) t i = if x.f0 = t then (i : Int) else findJ r t (i + 1) := rfl
theorem findJ_none (t : Int) : ∀ (l : List S74) (i : Nat), valsOf l t = none → findJ l t i = -1
  | [], _, _ => rfl
  | x :: r, i, h => by
    unfold valsOf at h
    by_cases c : x.f0 = t
    · rw [List.find?_cons_of_pos (p := fun z : S74 => z.f0 == t) (by simpa using c)] at h; simp at h
    · rw [List.find?_cons_of_neg (p := fun z : S74 => z.f0 == t) (by simpa using c)] at h
      rw [findJ_cons, if_neg c]
      exact findJ_none t r (i + 1) h
theorem findJ_some (t : Int) (s : ByteArray) : ∀ (l : List S74) (i : Nat), valsOf l t = some s → ∃ (j : Nat) (hj : j < l.length), findJ l t i = ((i + j : Nat) : Int) ∧ l[j].f1 = s
  | [], _, h => by simp [valsOf] at h
  | x :: r, i, h => by
    unfold valsOf at h
    by_cases c : x.f0 = t
    · rw [List.find?_cons_of_pos (p := fun z : S74 => z.f0 == t) (by simpa using c)] at h
      exact ⟨0, by simp, by rw [findJ_cons, if_pos c]; rfl, Option.some.inj h⟩
    · rw [List.find?_cons_of_neg (p := fun z : S74 => z.f0 == t) (by simpa using c)] at h
      obtain ⟨j, hj, h1, h2⟩ := findJ_some t s r (i + 1) h
      exact ⟨j + 1, by simpa using hj, by rw [findJ_cons, if_neg c, h1, show i + 1 + j = i + (j + 1) by omega], h2⟩
set_option maxRecDepth 100000 in
set_option maxHeartbeats 1000000 in
theorem ref_find {X : Nat → Prop} {g : Nat} {A : Option Addr} {c : Nat} {L : List S74} {F : FormS} {k : Nat} (w : World) (h : RefIs X g A c L F k w) (hL : L.length ≤ 1000000) (t : Int) :
    Calls Tryz.prog 80 #[.pointer (some ⟨g, 0, none⟩), .int .i64 t] w fun e w' => e = .returned (.int .i64 (findJ L t 0)) ∧ w' = w := by
  have h0 := h.c0
  have HC := Aside0.mk h.row
  clear h
  go_enter Tryz.func80, Tryz.ntmps80
  go_wp2
  go_loop [5] (fun v5 => ∃ i : Nat, v5 = .int .i64 (i : Int) ∧ i ≤ L.length ∧ Aside0 (findJ (L.drop i) t i = findJ L t 0)) (fun v5 => L.length - (intOf v5).toNat)
  case atStart => exact ⟨0, rfl, Nat.zero_le _, ⟨rfl⟩⟩
  case round =>
    obtain ⟨i, rfl, hi, HA⟩ := hrel
    by_cases hlt : i < L.length
    · obtain ⟨ad, hA, q0, q1⟩ := at_T84 HC.out (i : Int) (by omega) (by omega)
      have k1 : decide ((i : Int) < (L.length : Int)) = true := by rw [decide_eq_true_eq]; omega
      have k2 : (0 : Int) ≤ (i : Int) ∧ (i : Int) < (L.length : Int) := by omega
      have hti : ((i : Int)).toNat = i := Int.toNat_natCast i
      have hcl : Tryz.prog.cellsOf 84 = 2 := by kernel_rfl
      rw [rdR_at L i hlt, hti] at q0
      have hd : L.drop i = L[i] :: L.drop (i + 1) := List.drop_eq_getElem_cons hlt
      rw [hd, findJ_cons] at HA
      have q0' : w.cell? (ad.add (i * 2)) = some (.int .i64 L[i].f0) := q0
      rw [hA] at h0
      clear q0 q1 hd
      generalize L[i].f0 = x at *
      by_cases ce : x = t
      · have t1 : (x == t) = true := by rw [ce]; exact beq_self_eq_true t
        have HA2 : Aside0 ((i : Int) = findJ L t 0) := ⟨by have := HA.out; rw [if_pos ce] at this; exact this⟩
        clear HA ce
        go_wp2
        go_ret
        rw [HA2.out]
        exact ⟨rfl, rfl⟩
      · have t1 : (x == t) = false := by rw [beq_eq_false_iff_ne]; exact ce
        have HA2 : Aside0 (findJ (L.drop (i + 1)) t (i + 1) = findJ L t 0) := ⟨by have := HA.out; rw [if_neg ce] at this; exact this⟩
        clear HA ce
        go_wp2
        go_round
        case rel => exact ⟨i + 1, by rw [show ((i + 1 : Nat) : Int) = (i : Int) + 1 by omega], by omega, HA2⟩
        case measure => simp [intOf]; omega
    · have k1 : decide ((i : Int) < (L.length : Int)) = false := by rw [decide_eq_false_iff_not]; omega
      have HA2 : Aside0 (-1 = findJ L t 0) := ⟨by have := HA.out; rw [List.drop_eq_nil_of_le (by omega)] at this; exact this⟩
      clear HA
      go_wp2
      go_ret
      rw [← HA2.out]
      exact ⟨rfl, rfl⟩
set_option maxRecDepth 100000 in
theorem ref_fail {X : Nat → Prop} {g : Nat} {A : Option Addr} {c : Nat} {L : List S74} {F : FormS} {k : Nat} (w : World) (h : RefIs X g A c L F k w) (t e : Int) (he : F.e = 0) :
    Calls Tryz.prog 63 #[.pointer (some ⟨g, 0, none⟩), .int .i64 t, .int .i64 e] w fun en w' => en = .returned (.tuple #[]) ∧ RefIs X g A c L (F.fail t e) k w' ∧ Turned (fun j => ¬ X j) w w' := by
  have HF := Aside0.mk (h.fail t e)
  have h2 := h.c2
  have h3 := h.c3
  have l2 := h.l2
  have l3 := h.l3
  clear h
  have t1 : (F.e == 0) = true := by rw [he]; rfl
  clear he
  go_enter Tryz.func63, Tryz.ntmps63
  go_wp2
  go_end0
  exact ⟨rfl, HF.out⟩
def askV (F : FormS) (t : Int) : (ByteArray × Bool) × FormS :=
  if F.e ≠ 0 then ((⟨#[]⟩, false), F) else
  match F.vals t with
  | none => ((⟨#[]⟩, false), (F.mark t).fail t 110)
  | some s => ((s, true), F.mark t)
theorem info_int_r : (Tryz.prog.info? 3).map (fun i => (i.zero, i.size, i.bytes)) = some (some (.int .i64 0), 1, 8) := by kernel_rfl
set_option maxRecDepth 100000 in
set_option maxHeartbeats 2000000 in
theorem ref_value {X : Nat → Prop} {g : Nat} {A : Option Addr} {c : Nat} {L : List S74} {F : FormS} {k : Nat} (w : World) (h : RefIs X g A c L F k w) (hL : L.length ≤ 1000000) (hk : k ≤ 1000000) (t : Int) :
    Calls Tryz.prog 62 #[.pointer (some ⟨g, 0, none⟩), .int .i64 t] w fun e w' =>
      e = .returned (.tuple #[.string (askV F t).1.1, .bool (askV F t).1.2]) ∧ RefIs X g A c L (askV F t).2 (k + 1) w' ∧ Turned (fun j => ¬ X j) w w' := by
  have h3 := h.c3
  by_cases he : F.e = 0
  · have t1 : (F.e != 0) = false := by rw [he]; rfl
    obtain ⟨v, ak, h1, hR, hkl, hask⟩ := h.c1
    have l1 := h.l1
    have hgx := h.gx
    have HF := Aside0.mk h
    have hok : ∀ b, v.ownBlock = some b → ¬ X b ∧ b ≠ g := hR.1
    have hXl : ∀ b, w.heap.size ≤ b → ¬ X b ∧ b ≠ g := fun b hb => ⟨fun e => by have := h.lt b e; omega, fun e => by have := h.glt; omega⟩
    obtain ⟨A1, c1, rfl, hc1, -⟩ := Kd.R_reads hR
    have HA : Aside0 (∀ v1 w1, Kd.R (Kd.int .i64) 3 w1 0 (fun j => ¬ X j ∧ j ≠ g) v1 (ak ++ [t]) → w.grownBy w1 (Value.slice A1 ak.length c1).ownBlock → RefIs X g A c L (F.mark t) (k + 1) (w1.setCell ⟨g, 1, none⟩ v1) ∧ Turned (fun j => ¬ X j) w (w1.setCell ⟨g, 1, none⟩ v1)) :=
      ⟨fun v1 w1 hR1 hg1 => HF.out.ask hR hkl hask hR1 hg1⟩
    have hne : some g ≠ (Value.slice A1 ak.length c1).ownBlock := fun e => (hok g e.symm).2 rfl
    have HG : Aside0 (∀ w1, w.grownBy w1 (Value.slice A1 ak.length c1).ownBlock → w1.cell? ⟨g, 1, none⟩ = some (.slice A1 ak.length c1) ∧ w1.frozen? ⟨g, 1, none⟩ = false) :=
      ⟨fun w1 hg1 => by
        have hb := hg1.block g HF.out.glt hne
        exact ⟨(World.cell?_of_block (w := w) (a := ⟨g, 1, none⟩) hb).trans h1, (World.frozen?_of_block (w := w) (a := ⟨g, 1, none⟩) hb).trans l1⟩⟩
    have hl8 : (ak.length + 1) * 8 ≤ 140737488355328 := by omega
    have HR := Aside0.mk hR
    have HX := Aside0.mk hXl
    clear h hok hXl hask hR hne l1
    cases hvt : F.vals t with
    | none =>
      have HV : Aside0 (askV F t = ((⟨#[]⟩, false), (F.mark t).fail t 110)) := ⟨by unfold askV; rw [if_neg (by simpa using he), hvt]⟩
      have hfj : findJ L t 0 = -1 := findJ_none t L 0 (by rw [← HF.out.vals]; exact hvt)
      have he2 : (F.mark t).e = 0 := he
      clear hvt he
      go_enter Tryz.func62, Tryz.ntmps62
      go_wp2_with (first
        | (at_builtin; refine Kd.R_append (Kd.int .i64) (w0 := w) (W := w) 0 rfl (.tmp 16) (.tmp 18) 22 3 (.int .i64 0) 8 rfl Tryz.underlying22 info_int_r rfl (by decide) (by decide) (.slice A1 ak.length c1) ak t [.int .i64 t] (fun j => ¬ X j ∧ j ≠ g) (fun _ => False) (by rfl) (by rfl) rfl (fun _ h => h.elim) HX.out HR.out (Below.refl _ _) (Nat.zero_le _) hl8 ?_; intro v1 w1 hR1 hb1 hg1 hat1; obtain ⟨A3, c3, rfl, -⟩ := Kd.R_reads hR1; obtain ⟨m1, hm1⟩ : ∃ m, (ak ++ [t]).length = m := ⟨_, rfl⟩; rw [hm1] at hR1; rw [hm1]; clear hm1; have HF1 := Aside0.mk (HA.out _ w1 hR1 hg1); have hcg := (HG.out w1 hg1).1; have hfg := (HG.out w1 hg1).2; clear hR1 hb1 hg1 hat1)
        | (go_at_call 80; refine (ref_find _ HF1.out.1 hL t).mono ?_; rintro e w2 ⟨rfl, hh⟩; obtain rfl := hh.symm; clear hcg hfg; rw [hfj]; clear hfj)
        | (go_at_call 63; refine (ref_fail _ HF1.out.1 t 110 he2).mono ?_; rintro e w3 ⟨rfl, h4, h5⟩; have HF2 := Aside0.mk h4; have HT2 := Aside0.mk (HF1.out.2.trans h5); clear h4 h5))
      go_ret2
      rw [HV.out]
      exact ⟨rfl, HF2.out, HT2.out⟩
    | some s =>
      have HV : Aside0 (askV F t = ((s, true), F.mark t)) := ⟨by unfold askV; rw [if_neg (by simpa using he), hvt]⟩
      obtain ⟨j, hj, hfj, hs⟩ := findJ_some t s L 0 (by rw [← HF.out.vals]; exact hvt)
      rw [Nat.zero_add] at hfj
      have t2 : decide ((j : Int) < 0) = false := by rw [decide_eq_false_iff_not]; omega
      have k2 : (0 : Int) ≤ (j : Int) ∧ (j : Int) < (L.length : Int) := by omega
      have hti : ((j : Int)).toNat = j := Int.toNat_natCast j
      have hcl : Tryz.prog.cellsOf 84 = 2 := by kernel_rfl
      have HQ : Aside0 (∀ w2, RefIs X g A c L (F.mark t) (k + 1) w2 → w2.cell? ⟨g, 0, none⟩ = some (.slice A L.length c) ∧ ∃ ad, A = some ad ∧ w2.cell? ⟨(ad.add (j * 2)).block, (ad.add (j * 2)).off + 1, none⟩ = some (.string s)) := ⟨fun w2 h2 => by
        obtain ⟨ad, hA, q0, q1⟩ := at_T84 h2.row (j : Int) (by omega) (by omega)
        rw [rdR_at L j hj, hti] at q1
        refine ⟨h2.c0, ad, hA, ?_⟩
        rw [q1]; exact congrArg (fun x => some (Value.string x)) hs⟩
      clear hvt he hs
      go_enter Tryz.func62, Tryz.ntmps62
      go_wp2_with (first
        | (at_builtin; refine Kd.R_append (Kd.int .i64) (w0 := w) (W := w) 0 rfl (.tmp 16) (.tmp 18) 22 3 (.int .i64 0) 8 rfl Tryz.underlying22 info_int_r rfl (by decide) (by decide) (.slice A1 ak.length c1) ak t [.int .i64 t] (fun j => ¬ X j ∧ j ≠ g) (fun _ => False) (by rfl) (by rfl) rfl (fun _ h => h.elim) HX.out HR.out (Below.refl _ _) (Nat.zero_le _) hl8 ?_; intro v1 w1 hR1 hb1 hg1 hat1; obtain ⟨A3, c3, rfl, -⟩ := Kd.R_reads hR1; obtain ⟨m1, hm1⟩ : ∃ m, (ak ++ [t]).length = m := ⟨_, rfl⟩; rw [hm1] at hR1; rw [hm1]; clear hm1; have HF1 := Aside0.mk (HA.out _ w1 hR1 hg1); have hcg := (HG.out w1 hg1).1; have hfg := (HG.out w1 hg1).2; clear hR1 hb1 hg1 hat1)
        | (go_at_call 80; refine (ref_find _ HF1.out.1 hL t).mono ?_; rintro e w2 ⟨rfl, hh⟩; obtain rfl := hh.symm; clear hcg hfg; rw [hfj]; clear hfj; obtain ⟨hz0, ad, rfl, hz1⟩ := HQ.out _ HF1.out.1))
      go_ret2
      rw [HV.out]
      exact ⟨rfl, HF1.out.1, HF1.out.2⟩
  · have t1 : (F.e != 0) = true := by rw [bne_iff_ne]; exact he
    have HV : Aside0 (askV F t = ((⟨#[]⟩, false), F)) := ⟨by unfold askV; rw [if_pos he]⟩
    have HF := Aside0.mk (h.mono (Nat.le_succ k))
    clear h he
    go_enter Tryz.func62, Tryz.ntmps62
    go_wp2
    go_ret2
    rw [HV.out]
    exact ⟨rfl, HF.out, Turned.refl _ _⟩
theorem askV_off (F : FormS) (t : Int) (h : F.e ≠ 0) : askV F t = ((⟨#[]⟩, false), F) := by unfold askV; rw [if_pos h]
theorem askV_none (F : FormS) (t : Int) (h : F.e = 0) (hv : F.vals t = none) : askV F t = ((⟨#[]⟩, false), (F.mark t).fail t 110) := by unfold askV; rw [if_neg (by simpa using h), hv]
theorem askV_some (F : FormS) (t : Int) (h : F.e = 0) {s : ByteArray} (hv : F.vals t = some s) : askV F t = ((s, true), F.mark t) := by unfold askV; rw [if_neg (by simpa using h), hv]
set_option maxRecDepth 100000 in
set_option maxHeartbeats 2000000 in
theorem ref_name {X : Nat → Prop} {g : Nat} {A : Option Addr} {c : Nat} {L : List S74} {F : FormS} {k : Nat} (w : World) (h : RefIs X g A c L F k w) (hL : L.length ≤ 1000000) (hk : k ≤ 1000000) (hz : ∀ y ∈ L, y.f1.size ≤ 512) (t : Int) :
    Calls Tryz.prog 36 #[.pointer (some ⟨g, 0, none⟩), .int .i64 t] w fun e w' =>
      e = .returned (.string (askL takeName ⟨#[]⟩ F t).1) ∧ RefIs X g A c L (askL takeName ⟨#[]⟩ F t).2 (k + 1) w' ∧ Turned (fun j => ¬ X j) w w' := by
  have HVal := Aside0.mk (ref_value w h hL hk t)
  have hv : ∀ x s, F.vals x = some s → s.size ≤ 512 := fun x s hx => by
    rw [h.vals] at hx
    obtain ⟨y, hy, _, rfl⟩ := valsOf_mem _ _ _ hx
    exact hz y hy
  clear h hz
  by_cases he : F.e = 0
  · cases hvt : F.vals t with
    | none =>
      have HA := Aside0.mk (askL_none takeName ⟨#[]⟩ F t he hvt)
      rw [askV_none F t he hvt] at HVal
      try simp only at HVal
      clear he hvt hv
      go_enter Tryz.func36, Tryz.ntmps36
      go_wp2_with (go_at_call 62; refine HVal.out.mono ?_; rintro e w1 ⟨rfl, h4, h5⟩; have HF := Aside0.mk h4; have HT := Aside0.mk h5; clear h4 h5)
      go_ret
      rw [HA.out]
      exact ⟨rfl, HF.out, HT.out⟩
    | some s =>
      have HA := Aside0.mk (askL_some takeName ⟨#[]⟩ F t he hvt)
      have hs := hv t s hvt
      rw [askV_some F t he hvt] at HVal
      try simp only at HVal
      have he2 : (F.mark t).e = 0 := he
      have HN : Aside0 (∀ W, Calls Tryz.prog 26 #[.string s] W (NameIs (nameL s.data.toList 0) W)) := ⟨fun W => ref_Valid_walk s W (by omega)⟩
      unfold takeName at HA
      generalize nameL s.data.toList 0 = b at *
      clear he hvt hv hs
      cases b with
      | true =>
        have HA2 : Aside0 (askL takeName ⟨#[]⟩ F t = (s, F.mark t)) := ⟨HA.out.trans (by rw [if_pos rfl]; rfl)⟩
        clear HA he2
        go_enter Tryz.func36, Tryz.ntmps36
        go_wp2_with (first
          | (go_at_call 62; refine HVal.out.mono ?_; rintro e w1 ⟨rfl, h4, h5⟩; have HF := Aside0.mk h4; have HT := Aside0.mk h5; clear h4 h5)
          | (go_at_call 26; refine (HN.out _).mono ?_; rintro e w2 ⟨rfl, h6⟩; have HF2 := Aside0.mk (HF.out.below h6); have HT2 := Aside0.mk (HT.out.trans (Turned.of_below h6)); clear h6))
        go_ret
        rw [HA2.out]
        exact ⟨rfl, HF2.out, HT2.out⟩
      | false =>
        have HA2 : Aside0 (askL takeName ⟨#[]⟩ F t = (⟨#[]⟩, (F.mark t).fail t 43)) := ⟨HA.out.trans (if_neg (fun g => absurd (show (43 : Int) = 0 from g) (by decide)))⟩
        clear HA
        go_enter Tryz.func36, Tryz.ntmps36
        go_wp2_with (first
          | (go_at_call 62; refine HVal.out.mono ?_; rintro e w1 ⟨rfl, h4, h5⟩; have HF := Aside0.mk h4; have HT := Aside0.mk h5; clear h4 h5)
          | (go_at_call 26; refine (HN.out _).mono ?_; rintro e w2 ⟨rfl, h6⟩; have HF2 := Aside0.mk (HF.out.below h6); have HT2 := Aside0.mk (HT.out.trans (Turned.of_below h6)); clear h6)
          | (go_at_call 63; refine (ref_fail _ HF2.out t 43 he2).mono ?_; rintro e w3 ⟨rfl, h7, h8⟩; have HF3 := Aside0.mk h7; have HT3 := Aside0.mk (HT2.out.trans h8); clear h7 h8))
        go_ret
        rw [HA2.out]
        exact ⟨rfl, HF3.out, HT3.out⟩
  · have HA : Aside0 (askL takeName ⟨#[]⟩ F t = (⟨#[]⟩, F)) := ⟨askL_off _ _ _ _ he⟩
    rw [askV_off F t he] at HVal
    try simp only at HVal
    clear he hv
    go_enter Tryz.func36, Tryz.ntmps36
    go_wp2_with (go_at_call 62; refine HVal.out.mono ?_; rintro e w1 ⟨rfl, h4, h5⟩; have HF := Aside0.mk h4; have HT := Aside0.mk h5; clear h4 h5)
    go_ret
    rw [HA.out]
    exact ⟨rfl, HF.out, HT.out⟩
theorem takeInt_low (s : ByteArray) (low high : Int) (h : (numP s.data.toList).2 = 0) (hc : ((numP s.data.toList).1 : Int) < low ∨ ((numP s.data.toList).1 : Int) > high) : takeInt s low high = (((numP s.data.toList).1 : Int), 2) := by
  unfold takeInt; rw [if_pos ⟨h, hc⟩]
theorem takeInt_ok (s : ByteArray) (low high : Int) (h : (numP s.data.toList).2 = 0) (h1 : ¬ ((numP s.data.toList).1 : Int) < low) (h2 : ¬ ((numP s.data.toList).1 : Int) > high) : takeInt s low high = (((numP s.data.toList).1 : Int), 0) := by
  unfold takeInt; rw [if_neg (fun g => g.2.elim h1 h2), h]; rfl
theorem takeInt_bad (s : ByteArray) (low high : Int) (h : (numP s.data.toList).2 ≠ 0) : takeInt s low high = (((numP s.data.toList).1 : Int), ((numP s.data.toList).2 : Int)) := by
  unfold takeInt; rw [if_neg (fun g => h g.1)]
set_option maxRecDepth 100000 in
set_option maxHeartbeats 2000000 in
theorem ref_int {X : Nat → Prop} {g : Nat} {A : Option Addr} {c : Nat} {L : List S74} {F : FormS} {k : Nat} (w : World) (h : RefIs X g A c L F k w) (hL : L.length ≤ 1000000) (hk : k ≤ 1000000) (hz : ∀ y ∈ L, y.f1.size ≤ 512) (t low high : Int) :
    Calls Tryz.prog 37 #[.pointer (some ⟨g, 0, none⟩), .int .i64 t, .int .i64 low, .int .i64 high] w fun e w' =>
      e = .returned (.int .i64 (askL (fun s => takeInt s low high) 0 F t).1) ∧ RefIs X g A c L (askL (fun s => takeInt s low high) 0 F t).2 (k + 1) w' ∧ Turned (fun j => ¬ X j) w w' := by
  have HVal := Aside0.mk (ref_value w h hL hk t)
  have hv : ∀ x s, F.vals x = some s → s.size ≤ 512 := fun x s hx => by
    rw [h.vals] at hx
    obtain ⟨y, hy, _, rfl⟩ := valsOf_mem _ _ _ hx
    exact hz y hy
  clear h hz
  by_cases he : F.e = 0
  · cases hvt : F.vals t with
    | none =>
      have HA := Aside0.mk (askL_none (fun s => takeInt s low high) 0 F t he hvt)
      rw [askV_none F t he hvt] at HVal
      try simp only at HVal
      clear he hvt hv
      go_enter Tryz.func37, Tryz.ntmps37
      go_wp2_with (go_at_call 62; refine HVal.out.mono ?_; rintro e w1 ⟨rfl, h4, h5⟩; have HF := Aside0.mk h4; have HT := Aside0.mk h5; clear h4 h5)
      go_ret
      rw [HA.out]
      exact ⟨rfl, HF.out, HT.out⟩
    | some s =>
      have HA := Aside0.mk (askL_some (fun s => takeInt s low high) 0 F t he hvt)
      have hs := hv t s hvt
      rw [askV_some F t he hvt] at HVal
      try simp only at HVal HA
      have he2 : (F.mark t).e = 0 := he
      have HN : Aside0 (∀ W, Calls Tryz.prog 64 #[.string s] W fun e w' => e = .returned (.int .i64 (refNo s.data.toList)) ∧ Below W.heap.size W w') :=
        ⟨fun W => spigotref11_Number.calls s _ W (by unfold spigotref11_Number.f big; rw [if_pos (by omega)])⟩
      have hr := numP_range s.data.toList
      have hlow := takeInt_low s low high
      have hok := takeInt_ok s low high
      have hbad := takeInt_bad s low high
      have hrn : refNo s.data.toList = if (numP s.data.toList).2 = 0 then ((numP s.data.toList).1 : Int) else -1 := rfl
      generalize takeInt s low high = ti at *
      generalize refNo s.data.toList = n at *
      generalize numP s.data.toList = q at *
      obtain ⟨m, e⟩ := q
      simp only at hr hrn hlow hok hbad
      clear he hvt hv hs
      by_cases c0 : e = 0
      · subst c0
        rw [if_pos rfl] at hrn
        subst hrn
        have t0 : decide ((m : Int) < 0) = false := by rw [decide_eq_false_iff_not]; omega
        by_cases c1 : (m : Int) < low
        · have HA2 : Aside0 (askL (fun s => takeInt s low high) 0 F t = (0, (F.mark t).fail t 2)) := ⟨HA.out.trans (by rw [hlow rfl (.inl c1)]; exact if_neg (fun g => absurd (show (2 : Int) = 0 from g) (by decide)))⟩
          have t1 : decide ((m : Int) < low) = true := by rw [decide_eq_true_eq]; exact c1
          clear HA hr c1 hlow hok hbad
          go_enter Tryz.func37, Tryz.ntmps37
          go_wp2_with (first
            | (go_at_call 62; refine HVal.out.mono ?_; rintro e w1 ⟨rfl, h4, h5⟩; have HF := Aside0.mk h4; have HT := Aside0.mk h5; clear h4 h5)
            | (go_at_call 64; refine (HN.out _).mono ?_; rintro e w2 ⟨rfl, h6⟩; have HF2 := Aside0.mk (HF.out.below h6); have HT2 := Aside0.mk (HT.out.trans (Turned.of_below h6)); clear h6)
            | (go_at_call 63; refine (ref_fail _ HF2.out t 2 he2).mono ?_; rintro e w3 ⟨rfl, h7, h8⟩; have HF3 := Aside0.mk h7; have HT3 := Aside0.mk (HT2.out.trans h8); clear h7 h8))
          go_ret
          rw [HA2.out]
          exact ⟨rfl, HF3.out, HT3.out⟩
        · have t1 : decide ((m : Int) < low) = false := by rw [decide_eq_false_iff_not]; exact c1
          by_cases c2 : (m : Int) > high
          · have HA2 : Aside0 (askL (fun s => takeInt s low high) 0 F t = (0, (F.mark t).fail t 2)) := ⟨HA.out.trans (by rw [hlow rfl (.inr c2)]; exact if_neg (fun g => absurd (show (2 : Int) = 0 from g) (by decide)))⟩
            have t2 : decide (high < (m : Int)) = true := by rw [decide_eq_true_eq]; exact c2
            clear HA hr c1 c2 hlow hok hbad
            go_enter Tryz.func37, Tryz.ntmps37
            go_wp2_with (first
              | (go_at_call 62; refine HVal.out.mono ?_; rintro e w1 ⟨rfl, h4, h5⟩; have HF := Aside0.mk h4; have HT := Aside0.mk h5; clear h4 h5)
              | (go_at_call 64; refine (HN.out _).mono ?_; rintro e w2 ⟨rfl, h6⟩; have HF2 := Aside0.mk (HF.out.below h6); have HT2 := Aside0.mk (HT.out.trans (Turned.of_below h6)); clear h6)
              | (go_at_call 63; refine (ref_fail _ HF2.out t 2 he2).mono ?_; rintro e w3 ⟨rfl, h7, h8⟩; have HF3 := Aside0.mk h7; have HT3 := Aside0.mk (HT2.out.trans h8); clear h7 h8))
            go_ret
            rw [HA2.out]
            exact ⟨rfl, HF3.out, HT3.out⟩
          · have HA2 : Aside0 (askL (fun s => takeInt s low high) 0 F t = ((m : Int), F.mark t)) := ⟨HA.out.trans (by rw [hok rfl c1 c2]; exact if_pos rfl)⟩
            have t2 : decide (high < (m : Int)) = false := by rw [decide_eq_false_iff_not]; exact c2
            clear HA hr c1 c2 he2 hlow hok hbad
            go_enter Tryz.func37, Tryz.ntmps37
            go_wp2_with (first
              | (go_at_call 62; refine HVal.out.mono ?_; rintro e w1 ⟨rfl, h4, h5⟩; have HF := Aside0.mk h4; have HT := Aside0.mk h5; clear h4 h5)
              | (go_at_call 64; refine (HN.out _).mono ?_; rintro e w2 ⟨rfl, h6⟩; have HF2 := Aside0.mk (HF.out.below h6); have HT2 := Aside0.mk (HT.out.trans (Turned.of_below h6)); clear h6))
            go_ret
            rw [HA2.out]
            exact ⟨rfl, HF2.out, HT2.out⟩
      · rw [if_neg c0] at hrn
        subst hrn
        have h112 : e = 112 := hr.2.elim (fun g => absurd g c0) (fun g => g.1)
        subst h112
        have HA2 : Aside0 (askL (fun s => takeInt s low high) 0 F t = (0, (F.mark t).fail t 112)) := ⟨HA.out.trans (by rw [hbad (by decide)]; exact if_neg (fun g => absurd (show ((112 : Nat) : Int) = 0 from g) (by decide)))⟩
        clear HA hr c0 hlow hok hbad
        go_enter Tryz.func37, Tryz.ntmps37
        go_wp2_with (first
          | (go_at_call 62; refine HVal.out.mono ?_; rintro e w1 ⟨rfl, h4, h5⟩; have HF := Aside0.mk h4; have HT := Aside0.mk h5; clear h4 h5)
          | (go_at_call 64; refine (HN.out _).mono ?_; rintro e w2 ⟨rfl, h6⟩; have HF2 := Aside0.mk (HF.out.below h6); have HT2 := Aside0.mk (HT.out.trans (Turned.of_below h6)); clear h6)
          | (go_at_call 63; refine (ref_fail _ HF2.out t 112 he2).mono ?_; rintro e w3 ⟨rfl, h7, h8⟩; have HF3 := Aside0.mk h7; have HT3 := Aside0.mk (HT2.out.trans h8); clear h7 h8))
        go_ret
        rw [HA2.out]
        exact ⟨rfl, HF3.out, HT3.out⟩
  · have HA : Aside0 (askL (fun s => takeInt s low high) 0 F t = (0, F)) := ⟨askL_off _ _ _ _ he⟩
    rw [askV_off F t he] at HVal
    try simp only at HVal
    clear he hv
    go_enter Tryz.func37, Tryz.ntmps37
    go_wp2_with (go_at_call 62; refine HVal.out.mono ?_; rintro e w1 ⟨rfl, h4, h5⟩; have HF := Aside0.mk h4; have HT := Aside0.mk h5; clear h4 h5)
    go_ret
    rw [HA.out]
    exact ⟨rfl, HF.out, HT.out⟩
set_option maxRecDepth 100000 in
set_option maxHeartbeats 2000000 in
theorem ref_kind {X : Nat → Prop} {g : Nat} {A : Option Addr} {c : Nat} {L : List S74} {F : FormS} {k : Nat} (w : World) (h : RefIs X g A c L F k w) (hL : L.length ≤ 1000000) (hk : k ≤ 1000000) (h0 : 0 < L.length) (he : F.e = 0) :
    Calls Tryz.prog 34 #[.pointer (some ⟨g, 0, none⟩)] w fun e w' =>
      e = .returned (.string L[0].f1) ∧ RefIs X g A c L (F.mark 35) (k + 1) w' ∧ Turned (fun j => ¬ X j) w w' := by
  have h3 := h.c3
  have t1 : (F.e == 0) = true := by rw [he]; rfl
  obtain ⟨v, ak, h1, hR, hkl, hask⟩ := h.c1
  have l1 := h.l1
  have hgx := h.gx
  have HF := Aside0.mk h
  have hok : ∀ b, v.ownBlock = some b → ¬ X b ∧ b ≠ g := hR.1
  have hXl : ∀ b, w.heap.size ≤ b → ¬ X b ∧ b ≠ g := fun b hb => ⟨fun e => by have := h.lt b e; omega, fun e => by have := h.glt; omega⟩
  obtain ⟨A1, c1, rfl, hc1, -⟩ := Kd.R_reads hR
  have HA : Aside0 (∀ v1 w1, Kd.R (Kd.int .i64) 3 w1 0 (fun j => ¬ X j ∧ j ≠ g) v1 (ak ++ [35]) → w.grownBy w1 (Value.slice A1 ak.length c1).ownBlock → RefIs X g A c L (F.mark 35) (k + 1) (w1.setCell ⟨g, 1, none⟩ v1) ∧ Turned (fun j => ¬ X j) w (w1.setCell ⟨g, 1, none⟩ v1)) :=
    ⟨fun v1 w1 hR1 hg1 => HF.out.ask hR hkl hask hR1 hg1⟩
  have hne : some g ≠ (Value.slice A1 ak.length c1).ownBlock := fun e => (hok g e.symm).2 rfl
  have HG : Aside0 (∀ w1, w.grownBy w1 (Value.slice A1 ak.length c1).ownBlock → w1.cell? ⟨g, 1, none⟩ = some (.slice A1 ak.length c1) ∧ w1.frozen? ⟨g, 1, none⟩ = false) :=
    ⟨fun w1 hg1 => by
      have hb := hg1.block g HF.out.glt hne
      exact ⟨(World.cell?_of_block (w := w) (a := ⟨g, 1, none⟩) hb).trans h1, (World.frozen?_of_block (w := w) (a := ⟨g, 1, none⟩) hb).trans l1⟩⟩
  have hl8 : (ak.length + 1) * 8 ≤ 140737488355328 := by omega
  have HR := Aside0.mk hR
  have HX := Aside0.mk hXl
  have k2 : (0 : Int) < (L.length : Int) := by omega
  have hcl : Tryz.prog.cellsOf 84 = 2 := by kernel_rfl
  have HQ : Aside0 (∀ w2, RefIs X g A c L (F.mark 35) (k + 1) w2 → w2.cell? ⟨g, 0, none⟩ = some (.slice A L.length c) ∧ ∃ ad, A = some ad ∧ w2.cell? ⟨ad.block, ad.off + 1, none⟩ = some (.string L[0].f1)) := ⟨fun w2 h2 => by
    obtain ⟨ad, hA, q0, q1⟩ := at_T84 h2.row ((0 : Nat) : Int) (by omega) (by omega)
    rw [rdR_at L 0 h0] at q1
    have e0 : ad.add (((0 : Nat) : Int).toNat * 2) = ad := by unfold Addr.add; cases ad; simp
    rw [e0] at q1
    exact ⟨h2.c0, ad, hA, q1⟩⟩
  clear h hok hXl hask hR hne l1 he
  generalize L[0].f1 = s at *
  go_enter Tryz.func34, Tryz.ntmps34
  go_wp2_with (at_builtin; refine Kd.R_append (Kd.int .i64) (w0 := w) (W := w) 0 rfl (.tmp 12) (.tmp 13) 22 3 (.int .i64 0) 8 rfl Tryz.underlying22 info_int_r rfl (by decide) (by decide) (.slice A1 ak.length c1) ak 35 [.int .i64 35] (fun j => ¬ X j ∧ j ≠ g) (fun _ => False) (by rfl) (by rfl) rfl (fun _ h => h.elim) HX.out HR.out (Below.refl _ _) (Nat.zero_le _) hl8 ?_; intro v1 w1 hR1 hb1 hg1 hat1; obtain ⟨A3, c3, rfl, -⟩ := Kd.R_reads hR1; obtain ⟨m1, hm1⟩ : ∃ m, (ak ++ [(35 : Int)]).length = m := ⟨_, rfl⟩; rw [hm1] at hR1; rw [hm1]; clear hm1; have HF1 := Aside0.mk (HA.out _ w1 hR1 hg1); have hcg := (HG.out w1 hg1).1; have hfg := (HG.out w1 hg1).2; obtain ⟨hz0, ad, rfl, hz1⟩ := HQ.out _ HF1.out.1; clear hR1 hb1 hg1 hat1)
  go_ret
  exact ⟨rfl, HF1.out.1, HF1.out.2⟩
set_option maxRecDepth 100000 in
set_option maxHeartbeats 4000000 in
theorem ref_done {X : Nat → Prop} {g : Nat} {A : Option Addr} {c : Nat} {L : List S74} {F : FormS} {k : Nat} (w : World) (h : RefIs X g A c L F k w) (hL : L.length ≤ 1000000) (hk : k ≤ 1000000) :
    Calls Tryz.prog 39 #[.pointer (some ⟨g, 0, none⟩)] w fun e w' => e = .returned (.tuple #[.int .i64 (doneL F).1, .int .i64 (doneL F).2]) ∧ ∃ q, w' = w.drewN q := by
  have h2 := h.c2
  have h3 := h.c3
  by_cases he : F.e = 0
  · have t1 : (F.e != 0) = false := by rw [he]; rfl
    have HD : Aside0 (doneL F = spareL F.asked (tagsOf L)) := ⟨by unfold doneL; rw [if_neg (by simpa using he), h.order]⟩
    have h0 := h.c0
    obtain ⟨v, ak, h1, hR, hkl, hask⟩ := h.c1
    obtain ⟨A1, c1, rfl, hc1, hC1⟩ := Kd.R_reads hR
    have HC1 := Aside0.mk hC1
    have HCL := Aside0.mk h.row
    have HAsk := Aside0.mk hask
    have hcl : Tryz.prog.cellsOf 84 = 2 := by kernel_rfl
    generalize F.asked = asked at *
    clear h hR hC1 hask he h2
    go_enter Tryz.func39, Tryz.ntmps39
    go_wp2
    go_loopw [4] (fun v4 wr => ∃ i q : Nat, v4 = .int .i64 (i : Int) ∧ i ≤ L.length ∧ wr = w.drewN q ∧ Aside0 (spareL asked ((tagsOf L).drop i) = spareL asked (tagsOf L))) (fun v4 _ => L.length - (intOf v4).toNat)
    case atStart => exact ⟨0, 0, rfl, Nat.zero_le _, rfl, ⟨rfl⟩⟩
    case round =>
      obtain ⟨i, q, rfl, hi, rfl, HA⟩ := hrel
      by_cases hlt : i < L.length
      · obtain ⟨ad, hA, q0, -⟩ := at_T84 HCL.out (i : Int) (by omega) (by omega)
        have hti : ((i : Int)).toNat = i := Int.toNat_natCast i
        rw [rdR_at L i hlt, hti] at q0
        have q0' : w.cell? (ad.add (i * 2)) = some (.int .i64 L[i].f0) := q0
        have k1 : decide ((i : Int) < (L.length : Int)) = true := by rw [decide_eq_true_eq]; omega
        have k2 : (0 : Int) ≤ (i : Int) ∧ (i : Int) < (L.length : Int) := by omega
        have hdr : (tagsOf L).drop i = L[i].f0 :: (tagsOf L).drop (i + 1) := by
          unfold tagsOf
          rw [List.drop_eq_getElem_cons (by rw [List.length_map]; exact hlt), List.getElem_map]
        rw [hdr, spareL_cons] at HA
        subst hA
        have hax := HAsk.out L[i].f0
        clear q0 hdr
        generalize L[i].f0 = x at *
        have HAx := Aside0.mk hax
        clear hax
        go_wp2
        go_loopw [5, 6] (fun v5 v6 wr => ∃ j q : Nat, v6 = .int .i64 (j : Int) ∧ j ≤ ak.length ∧ wr = w.drewN q ∧ v5 = .bool (decide (x ∈ ak.take j))) (fun _ v6 _ => ak.length - (intOf v6).toNat)
        case atStart => exact ⟨0, q, rfl, Nat.zero_le _, rfl, by simp⟩
        case round =>
          obtain ⟨j, q2, rfl, hj, rfl, rfl⟩ := hrel
          by_cases hjl : j < ak.length
          · obtain ⟨ad1, hA1, p0⟩ := Kd.at_int HC1.out (j : Int) (by omega) (by omega)
            have htj : ((j : Int)).toNat = j := Int.toNat_natCast j
            have hrd : rd ak (j : Int) = ak[j] := by unfold rd; rw [Int.toNat_natCast, List.getD_eq_getElem?_getD, List.getElem?_eq_getElem hjl]; rfl
            rw [htj, hrd] at p0
            clear hrd
            have m1 : decide ((j : Int) < (ak.length : Int)) = true := by rw [decide_eq_true_eq]; omega
            have m2 : (0 : Int) ≤ (j : Int) ∧ (j : Int) < (ak.length : Int) := by omega
            have htk : ak.take (j + 1) = ak.take j ++ [ak[j]] := List.take_succ_eq_append_getElem hjl
            have hmem : (x ∈ ak.take (j + 1)) ↔ (x ∈ ak.take j ∨ x = ak[j]) := by rw [htk, List.mem_append, List.mem_singleton]
            subst hA1
            have HM := Aside0.mk hmem
            clear hmem htk
            generalize ak[j] = y at *
            by_cases cm : x ∈ ak.take j
            · have HB2 : Aside0 (decide (x ∈ ak.take (j + 1)) = true) := ⟨by rw [decide_eq_true_eq]; exact HM.out.2 (.inl cm)⟩
              rw [decide_eq_true cm]
              clear HM cm
              go_wp2
              go_quiet (fail)
              go_wp2
              refine ⟨⟨j + 1, _, by rw [show ((j + 1 : Nat) : Int) = (j : Int) + 1 by omega], by omega, rfl, by rw [HB2.out]⟩, ?_⟩
              show ak.length - ((j : Int) + 1).toNat < ak.length - ((j : Int)).toNat
              omega
            · rw [decide_eq_false cm]
              by_cases cy : y = x
              · have HB2 : Aside0 (decide (x ∈ ak.take (j + 1)) = true) := ⟨by rw [decide_eq_true_eq]; exact HM.out.2 (.inr cy.symm)⟩
                have n1 : (y == x) = true := by rw [cy]; exact beq_self_eq_true x
                clear HM cm cy
                go_wp2
                go_quiet (fail)
                go_wp2
                refine ⟨⟨j + 1, _, by rw [show ((j + 1 : Nat) : Int) = (j : Int) + 1 by omega], by omega, rfl, by rw [HB2.out]⟩, ?_⟩
                show ak.length - ((j : Int) + 1).toNat < ak.length - ((j : Int)).toNat
                omega
              · have HB2 : Aside0 (decide (x ∈ ak.take (j + 1)) = false) := ⟨by rw [decide_eq_false_iff_not]; intro g; exact (HM.out.1 g).elim cm (fun g => cy g.symm)⟩
                have n1 : (y == x) = false := by rw [beq_eq_false_iff_ne]; exact cy
                clear HM cm cy
                go_wp2
                go_quiet (fail)
                go_wp2
                refine ⟨⟨j + 1, _, by rw [show ((j + 1 : Nat) : Int) = (j : Int) + 1 by omega], by omega, rfl, by rw [HB2.out]⟩, ?_⟩
                show ak.length - ((j : Int) + 1).toNat < ak.length - ((j : Int)).toNat
                omega
          · have m1 : decide ((j : Int) < (ak.length : Int)) = false := by rw [decide_eq_false_iff_not]; omega
            have htk : ak.take j = ak := List.take_of_length_le (by omega)
            rw [htk, ← HAx.out]
            by_cases ca : asked x = true
            · have HA2 : Aside0 (spareL asked ((tagsOf L).drop (i + 1)) = spareL asked (tagsOf L)) := ⟨by have h1 := HA.out; rw [if_pos ca] at h1; exact h1⟩
              clear HA htk HAx
              rw [ca]
              go_wp2
              refine ⟨⟨i + 1, _, by rw [show ((i + 1 : Nat) : Int) = (i : Int) + 1 by omega], by omega, rfl, HA2⟩, ?_⟩
              show L.length - ((i : Int) + 1).toNat < L.length - ((i : Int)).toNat
              omega
            · have ca' : asked x = false := by simpa using ca
              have HA2 : Aside0 ((x, (113 : Int)) = spareL asked (tagsOf L)) := ⟨by have h1 := HA.out; rw [if_neg ca] at h1; exact h1⟩
              clear HA htk HAx ca
              rw [ca']
              go_wp2
              go_ret2
              rw [HD.out, ← HA2.out]
              exact ⟨rfl, _, rfl⟩
      · have k1 : decide ((i : Int) < (L.length : Int)) = false := by rw [decide_eq_false_iff_not]; omega
        have HA2 : Aside0 (((0 : Int), (0 : Int)) = spareL asked (tagsOf L)) := ⟨by
          have h1 := HA.out
          rw [List.drop_eq_nil_of_le (by unfold tagsOf; rw [List.length_map]; omega)] at h1; exact h1⟩
        clear HA
        go_wp2
        go_ret2
        rw [HD.out, ← HA2.out]
        exact ⟨rfl, _, rfl⟩
  · have t1 : (F.e != 0) = true := by rw [bne_iff_ne]; exact he
    have HD : Aside0 (doneL F = (F.tag, F.e)) := ⟨by unfold doneL; rw [if_pos he]⟩
    clear h he
    go_enter Tryz.func39, Tryz.ntmps39
    go_wp2
    go_quiet (fail)
    go_wp2
    go_ret2
    rw [HD.out]
    exact ⟨rfl, _, rfl⟩
end Go.Proofs.YtgfigkfcmkdjdaaGreatDoor.B
end
section
namespace Go.Proofs.YtgfigkfcmkdjdaaGreatDoor.B
open Go.RowKit Go.Proofs.YtgfigkfcmkdjdaaGreatDoorW.PrintWords Go.Proofs.YtgfigkfcmkdjdaaGreatDoorW.PrintLast Go.Proofs.YtgfigkfcmkdjdaaGreatDoorW.PrintMore
attribute [local go_sem] max2_int min2_int max_two min_two max_three min_three max_four min_four   -- for this text's walks alone
set_option linter.unusedVariables false
set_option linter.unusedSimpArgs false
theorem spigotref08_May_same (r : Nat) (hr : r ≤ 2147483647) (w : World) :
    Calls Tryz.prog 89 #[.int .i32 (r : Int)] w fun e w' => e = .returned (.bool (mayB r)) ∧ w = w' := by
  by_cases c1 : r < 32
  · have hv : mayB r = false := by unfold mayB; simp; omega
    have t1 : decide ((31 : Int) < (r : Int)) = false := by rw [decide_eq_false_iff_not]; omega
    rw [hv]
    clear hv c1
    go_enter Tryz.func89, Tryz.ntmps89
    go_wp2
    go_ret
    exact ⟨rfl, rfl⟩
  have t1 : decide ((31 : Int) < (r : Int)) = true := by rw [decide_eq_true_eq]; omega
  by_cases c2 : r = 127
  · subst c2
    go_enter Tryz.func89, Tryz.ntmps89
    go_wp2
    go_ret
    exact ⟨rfl, rfl⟩
  by_cases c3 : r = 65533
  · subst c3
    go_enter Tryz.func89, Tryz.ntmps89
    go_wp2
    go_ret
    exact ⟨rfl, rfl⟩
  have hv : mayB r = true := by rw [mayB_eq]; omega
  have t2 : ((r : Int) == 127) = false := by rw [beq_eq_false_iff_ne]; omega
  have t3 : ((r : Int) != 127) = true := by rw [bne_iff_ne]; omega
  have t4 : ((r : Int) == 65533) = false := by rw [beq_eq_false_iff_ne]; omega
  have t5 : ((r : Int) != 65533) = true := by rw [bne_iff_ne]; omega
  rw [hv]
  clear hv c1 c2 c3
  go_enter Tryz.func89, Tryz.ntmps89
  go_wp2
  go_ret
  exact ⟨rfl, rfl⟩
end Go.Proofs.YtgfigkfcmkdjdaaGreatDoor.B
end
section
namespace Go.Proofs.YtgfigkfcmkdjdaaGreatDoor.B
open Go.RowKit Go.Proofs.YtgfigkfcmkdjdaaGreatDoorW.PrintWords Go.Proofs.YtgfigkfcmkdjdaaGreatDoorW.PrintLast Go.Proofs.YtgfigkfcmkdjdaaGreatDoorW.PrintMore
attribute [local go_sem] max2_int min2_int max_two min_two max_three min_three max_four min_four   -- for this text's walks alone
set_option linter.unusedVariables false
set_option linter.unusedSimpArgs false
def spigotref08_width.f (a0 : ByteArray) : Option Int := if a0.size ≤ big then some (widthL a0.data.toList : Int) else none
def IntIs (n : Int) (w : World) (e : Ending) (w' : World) : Prop := e = .returned (.int .i64 n) ∧ Below w.heap.size w w'
theorem IntIs.mk_ {a n : Int} {w w' : World} (h : a = n) (hw : Below w.heap.size w w') : IntIs n w (.returned (.int .i64 a)) w' := by subst h; exact ⟨rfl, hw⟩
set_option maxHeartbeats 2000000 in
theorem spigotref08_width_walk (s : ByteArray) (w : World) (hs : s.size ≤ big) :
    Calls Tryz.prog 70 #[.string s] w (IntIs (widthL s.data.toList) w) := by
  unfold big at hs
  have HL : Aside0 (s.data.toList.length = s.size) := ⟨rfl⟩
  go_enter Tryz.func70, Tryz.ntmps70
  go_wp2
  go_loopw [3] (fun v3 w' => ∃ n : Nat, v3 = .int .i64 (n : Int) ∧ 1 ≤ n ∧ n ≤ 5 ∧ Aside0 (Below w.heap.size w w') ∧ Aside0 ((dec s.data.toList).1 ≠ 65533 → s.data.toList ≠ [] → n ≤ (dec s.data.toList).2)) (fun v3 _ => 5 - (intOf v3).toNat)
  case atStart => exact ⟨1, rfl, Nat.le_refl _, by omega, ⟨Below.refl _ _⟩, ⟨fun _ _ => dec_width _⟩⟩
  case round =>
    obtain ⟨n, rfl, hn1, hn5, HB, HA⟩ := hrel
    by_cases hlt : n ≤ 4 ∧ n ≤ s.size
    · obtain ⟨hn4, hns⟩ := hlt
      have hz : (s.extract 0 n).size ≤ 70368744177664 := by rw [ByteArray.size_extract]; omega
      obtain ⟨cap, C, hcv, hcap, hCs, hC⟩ := runes_conv (P := Tryz.prog) wr 9 89 21 (s.extract 0 n) Tryz.underlying9 Tryz.underlying89 Tryz.underlying21 hz
      have hz2 := hCs
      rw [take_list] at hcv hcap hC
      have t1 : decide ((n : Int) ≤ 4) = true := by rw [decide_eq_true_eq]; omega
      have t2 : decide ((n : Int) ≤ (s.size : Int)) = true := by rw [decide_eq_true_eq]; omega
      have HB2 : Aside0 (Below w.heap.size w (wr.drew.alloc (.cells C 21))) := ⟨HB.out.drew.alloc (by have := HB.out.size; exact this) _⟩
      by_cases hone : (runesL (s.data.toList.take n)).length = 1
      · obtain ⟨r, hr⟩ : ∃ r, runesL (s.data.toList.take n) = [r] := List.length_eq_one_iff.1 hone
        have hc0 := hC 0 (by omega)
        rw [hr] at hcv hc0
        have hc0' : C[0]? = some (.int .i32 (r : Int)) := hc0
        by_cases hr5 : r = 65533
        · subst hr5
          have HN : Aside0 ((dec s.data.toList).1 ≠ 65533 → s.data.toList ≠ [] → n + 1 ≤ (dec s.data.toList).2) := ⟨fun g g2 => by
            have h1 := HA.out g g2
            rcases Nat.lt_or_ge n (dec s.data.toList).2 with g3 | g3
            · exact g3
            · have e : n = (dec s.data.toList).2 := by omega
              have := one_runes s.data.toList g2 g
              rw [← e, hr] at this
              injection this with this _
              exact absurd this.symm g⟩
          clear HA hC hc0 hone hr hz hcap hz2 hCs
          go_wp2
          go_roundw
          case rel => exact ⟨n + 1, by simp, by omega, by omega, HB2, HN⟩
          case measure => simp [intOf]; omega
        · have hdec := runes_one s.data.toList n r hn1 (by rw [size_list]; omega) hr5 hr
          have hne : s.data.toList ≠ [] := by intro e; have := congrArg List.length e; rw [size_list, List.length_nil] at this; omega
          have hrl : r ≤ 2147483647 := by have := dec_rune s.data.toList; rw [hdec] at this; omega
          have t3 : ((r : Int) != 65533) = true := by rw [bne_iff_ne]; omega
          have HM : Aside0 (∀ w, Calls Tryz.prog 89 #[.int .i32 (r : Int)] w fun e w' => e = .returned (.bool (mayB r)) ∧ w = w') := ⟨fun w => spigotref08_May_same r hrl w⟩
          cases hm : mayB r with
          | true =>
            rw [hm] at HM
            have HF : Aside0 ((n : Int) = (widthL s.data.toList : Int)) := ⟨by unfold widthL; rw [if_pos ⟨hne, by rw [hdec]; exact hm⟩, hdec]⟩
            clear HA hC hc0 hone hr hz hcap hz2 hCs hdec hne hm hr5 hrl
            go_wp2_with (go_at_call 89; refine (HM.out _).mono ?_; rintro e w1 ⟨rfl, rfl⟩)
            go_ret
            exact IntIs.mk_ HF.out HB2.out
          | false =>
            rw [hm] at HM
            have HF : Aside0 ((0 : Int) = (widthL s.data.toList : Int)) := ⟨by unfold widthL; rw [if_neg (by rw [hdec]; simp [hm])]; rfl⟩
            clear HA hC hc0 hone hr hz hcap hz2 hCs hdec hne hm hr5 hrl
            go_wp2_with (go_at_call 89; refine (HM.out _).mono ?_; rintro e w1 ⟨rfl, rfl⟩)
            go_ret
            exact IntIs.mk_ HF.out HB2.out
      · have t3 : (((runesL (s.data.toList.take n)).length : Int) == 1) = false := by rw [beq_eq_false_iff_ne]; omega
        have HN : Aside0 ((dec s.data.toList).1 ≠ 65533 → s.data.toList ≠ [] → n + 1 ≤ (dec s.data.toList).2) := ⟨fun g g2 => by
          have h1 := HA.out g g2
          rcases Nat.lt_or_ge n (dec s.data.toList).2 with g3 | g3
          · exact g3
          · have e : n = (dec s.data.toList).2 := by omega
            have := one_runes s.data.toList g2 g
            rw [← e] at this
            exact absurd (by rw [this]; rfl) hone⟩
        generalize (runesL (s.data.toList.take n)).length = m at *
        clear HA hC hone hz hcap hz2 hCs
        go_wp2
        go_roundw
        case rel => exact ⟨n + 1, by simp, by omega, by omega, HB2, HN⟩
        case measure => simp [intOf]; omega
    · have HF : Aside0 ((0 : Int) = (widthL s.data.toList : Int)) := ⟨by
        unfold widthL
        by_cases g : s.data.toList ≠ [] ∧ mayB (dec s.data.toList).1 = true
        · have h1 := HA.out ((mayB_eq _).1 g.2).2.2 g.1
          have h4 := dec_width4 s.data.toList
          have h5 := dec_width_le s.data.toList g.1
          rw [size_list] at h5
          omega
        · rw [if_neg g]; rfl⟩
      clear HA
      by_cases g4 : n ≤ 4
      · have t1 : decide ((n : Int) ≤ 4) = true := by rw [decide_eq_true_eq]; omega
        have t2 : decide ((n : Int) ≤ (s.size : Int)) = false := by rw [decide_eq_false_iff_not]; omega
        go_wp2
        go_ret
        exact IntIs.mk_ HF.out HB.out
      · have t1 : decide ((n : Int) ≤ 4) = false := by rw [decide_eq_false_iff_not]; omega
        go_wp2
        go_ret
        exact IntIs.mk_ HF.out HB.out
theorem spigotref08_width.calls (a0 : ByteArray) (r : Int) (w : World) (h : spigotref08_width.f a0 = some r) :
    Calls Tryz.prog 70 #[.string a0] w fun e w' => e = .returned (.int .i64 r) ∧ Below w.heap.size w w' := by
  unfold spigotref08_width.f at h
  by_cases c : a0.size ≤ big
  · rw [if_pos c] at h
    obtain rfl := Option.some.inj h
    exact spigotref08_width_walk a0 w c
  · rw [if_neg c] at h; cases h
end Go.Proofs.YtgfigkfcmkdjdaaGreatDoor.B
end
