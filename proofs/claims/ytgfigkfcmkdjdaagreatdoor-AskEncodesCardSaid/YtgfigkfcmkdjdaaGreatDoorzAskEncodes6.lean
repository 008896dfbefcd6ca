/- The functions that the law reaches, as plain Lean functions, and their contracts: texts merged. -/
import Derived.Laws.StructEq
import Derived.Test.YtgfigkfcmkdjdaaGreatDoorzAskEncodes2
import Derived.Test.YtgfigkfcmkdjdaaGreatDoorzAskEncodes0
import Derived.Test.YtgfigkfcmkdjdaaGreatDoorzAskEncodes1
import Derived.Test.YtgfigkfcmkdjdaaGreatDoorzAskEncodes3
import Derived.Test.YtgfigkfcmkdjdaaGreatDoorzAskEncodes4
import Derived.Test.YtgfigkfcmkdjdaaGreatDoorzAskEncodes5
section
namespace Go.Proofs.YtgfigkfcmkdjdaaGreatDoor.B
open Go.RowKit Go.Proofs.YtgfigkfcmkdjdaaGreatDoorW.PrintWords Go.Proofs.YtgfigkfcmkdjdaaGreatDoorW.PrintLast Go.Proofs.YtgfigkfcmkdjdaaGreatDoorW.PrintMore
attribute [local go_sem] max2_int min2_int max_two min_two max_three min_three max_four min_four   -- for this text's walks alone
set_option linter.unusedVariables false
set_option linter.unusedSimpArgs false
theorem fieldsL_good (n : Nat) : ∀ (l : List UInt8) (c p : Nat), l.length ≤ n → ∀ x ∈ (fieldsL l c p).1, 1 ≤ x.1 ∧ x.1 ≤ 99999 ∧ valueL x.2 = true := by
  induction n with
  | zero =>
    intro l c p hn x hx
    obtain rfl := List.eq_nil_of_length_eq_zero (by omega : l.length = 0)
    rw [fieldsL_nil] at hx
    simp at hx
  | succ n ih =>
    intro l c p hn x hx
    by_cases hl : l = []
    · subst hl; rw [fieldsL_nil] at hx; simp at hx
    by_cases hc : 64 ≤ c
    · rw [fieldsL_full l hl c p hc] at hx; simp at hx
    by_cases he : (nextL l).2.2 = 0
    · rw [fieldsL_next l hl c p (by omega) he] at hx
      have h1 := nextL_pos l he
      rcases List.mem_cons.1 hx with rfl | hx
      · have hf := nextL_form l he
        exact ⟨hf.2.2.1, hf.2.2.2, hf.2.1⟩
      · have hpos := List.length_pos_iff.2 hl
        exact ih _ _ _ (by rw [List.length_drop]; omega) x hx
    · rw [fieldsL_err l hl c p (by omega) he] at hx; simp at hx
def tagsOf (l : List S74) : List Int := l.map (·.f0)
def valsOf (l : List S74) (t : Int) : Option ByteArray := (l.find? (fun x => x.f0 == t)).map (·.f1)
def dupL : List S74 → List S74 → Bool
  | _, [] => false
  | seen, x :: r => if (valsOf seen x.f0).isSome then true else dupL (seen ++ [x]) r
theorem dupL_cons (seen : List S74) (x : S74) (r : List S74) : dupL seen (x :: r) = if (valsOf seen x.f0).isSome = true then true else dupL (seen ++ [x]) r := rfl
def formOf (l : List S74) : FormS := ⟨tagsOf l, valsOf l, fun _ => false, 0, 0⟩
def fieldsB (s : ByteArray) : List S74 := (fieldsL s.data.toList 0 0).1.map mkF
def readB (s : ByteArray) : Option FormS × Int :=
  if (fieldsL s.data.toList 0 0).2.2 ≠ 0 then (none, (fieldsL s.data.toList 0 0).2.2)
  else if (fieldsB s).length = 0 ∨ (rd_T74 (fieldsB s) 0).f0 ≠ 35 then (none, 110)
  else if dupL [] (fieldsB s) = true then (none, 111) else (some (formOf (fieldsB s)), 0)
theorem fieldsB_good (s : ByteArray) : ∀ x ∈ fieldsB s, 1 ≤ x.f0 ∧ x.f0 ≤ 99999 ∧ x.f1.size ≤ 512 := by
  intro x hx
  obtain ⟨y, hy, rfl⟩ := List.mem_map.1 hx
  have h := fieldsL_good _ _ 0 0 (Nat.le_refl _) y hy
  have hv : y.2.length ≤ 512 := by
    have := h.2.2
    unfold valueL at this
    simp only [Bool.and_eq_true, decide_eq_true_eq] at this
    exact this.2.1
  refine ⟨?_, ?_, ?_⟩
  · show (1 : Int) ≤ ((y.1 : Nat) : Int); omega
  · show ((y.1 : Nat) : Int) ≤ 99999; omega
  · show y.2.toArray.size ≤ 512
    simpa using hv
theorem fieldsB_len (s : ByteArray) : (fieldsB s).length ≤ 64 := by
  have := fieldsL_count _ s.data.toList 0 0 (Nat.le_refl _) (by omega)
  unfold fieldsB
  rw [List.length_map]; omega
theorem valsOf_snoc (l : List S74) (y : S74) (h : valsOf l y.f0 = none) : valsOf (l ++ [y]) = fun x => if x = y.f0 then some y.f1 else valsOf l x := by
  funext t
  unfold valsOf at *
  rw [List.find?_append]
  by_cases c : t = y.f0
  · subst c
    have h0 : l.find? (fun x => x.f0 == y.f0) = none := by simpa using h
    rw [h0, if_pos rfl]
    simp
  · rw [if_neg c]
    have : List.find? (fun x : S74 => x.f0 == t) [y] = none := by simp; intro e; exact c e.symm
    rw [this]
    simp
theorem valsOf_mem (l : List S74) (t : Int) (s : ByteArray) (h : valsOf l t = some s) : ∃ x ∈ l, x.f0 = t ∧ x.f1 = s := by
  unfold valsOf at h
  obtain ⟨x, hx, rfl⟩ := Option.map_eq_some_iff.1 h
  have h1 := List.find?_some hx
  exact ⟨x, List.mem_of_find?_eq_some hx, by simpa using h1, rfl⟩
structure RdIs (l : List S74) (B i : Nat) (A : Option Addr) (c : Nat) (w1 wr : World) : Prop where
  form : FormIs (B + 1 + 1) ⟨A, c, B, B + 1⟩ (formOf (l.take i)) 0 wr
  row : Kd.R (Kd.int .i64) 3 wr (B + 3) (fun _ => True) (.slice A i c) (tagsOf (l.take i))
  live : wr.frozen? ⟨B + 1 + 1, 0, none⟩ = false
  low : Below B w1 wr
  size : B + 3 ≤ wr.heap.size
def formW (w1 : World) : World := ((w1.alloc (.map #[] 0)).alloc (.map #[] 0)).alloc (.cells #[.slice none 0 0, .map (some w1.heap.size), .map (some (w1.heap.size + 1)), .int .i64 0, .int .i64 0] 96)
theorem read_start (l : List S74) (w1 : World) : RdIs l w1.heap.size 0 none 0 w1 (formW w1) := by
  have hz : (formW w1).heap.size = w1.heap.size + 3 := by simp [formW]
  have hM : ∀ {R : Value → Option (DataW Unit × List MemPlace)}, (w1.alloc (.map #[] 0)).ownsMap Tryz.prog 3 R w1.heap.size 0 (.map []) := World.ownsMap_made w1 _ _ _
  have hM2 : ∀ {R : Value → Option (DataW Unit × List MemPlace)}, ((w1.alloc (.map #[] 0)).alloc (.map #[] 0)).ownsMap Tryz.prog 3 R (w1.heap.size + 1) 0 (.map []) := by
    intro R
    have := World.ownsMap_made (w1.alloc (.map #[] 0)) Tryz.prog 3 R
    simpa using this
  refine ⟨⟨by simp [formW, go_sem, formOf, tagsOf], by simp [formW, go_sem], by simp [formW, go_sem], by simp [formW, go_sem, formOf], by simp [formW, go_sem, formOf], by simp [formW, go_sem], by simp [formW, go_sem], ⟨.map [], ?_, ?_, ?_⟩, ⟨.map [], ?_, ?_⟩, ?_, by show w1.heap.size + 1 + 1 ≠ w1.heap.size; omega, by show w1.heap.size + 1 + 1 ≠ w1.heap.size + 1; omega, by show w1.heap.size ≠ w1.heap.size + 1; omega, by simp⟩, ?_, by simp [formW, go_sem], ?_, by omega⟩
  · exact (hM.alloc _).alloc _
  · intro t _; rfl
  · intro t _; rfl
  · exact hM2.alloc _
  · intro t _; rfl
  · intro i hi; simp [formOf, tagsOf] at hi
  · simp only [List.take_zero, tagsOf, List.map_nil]; exact Kd.R_nil _ _ _ _ _
  · unfold formW
    exact (((Below.refl _ _).alloc (Nat.le_refl _) _).alloc (by simp) _).alloc (by simp; omega) _
theorem read_step {l : List S74} {B i : Nat} {A : Option Addr} {c : Nat} {w1 wr : World} (h : RdIs l B i A c w1 wr) (hi : i < l.length) (x : S74) (hx : l[i] = x) (hd : valsOf (l.take i) x.f0 = none) (ht : i64ok x.f0) (hs : x.f1.size ≤ 512) (hl : l.length ≤ 64) (hgl : ∀ y ∈ l, i64ok y.f0)
    {W w3 : World} (hW : Below wr.heap.size wr W) {A3 : Option Addr} {c3 : Nat} (hR3 : Kd.R (Kd.int .i64) 3 w3 (B + 3) (fun _ => True) (.slice A3 (i + 1) c3) (tagsOf (l.take i) ++ [x.f0])) (hb3 : Below (B + 3) W w3) :
    ∃ w5, (Instr.mapUpdate 93 (.map (some B)) (.int .i64 x.f0) (.string x.f1)).run Tryz.prog (w3.setCell ⟨B + 1 + 1, 0, none⟩ (.slice A3 (i + 1) c3)).drew = .ok () w5 ∧ RdIs l B (i + 1) A3 c3 w1 w5 := by
  have hsz := h.size
  have hWs := hW.size
  have h3s := hb3.size
  have htk : l.take (i + 1) = l.take i ++ [x] := by rw [List.take_succ_eq_append_getElem hi, hx]
  have htg : tagsOf (l.take (i + 1)) = tagsOf (l.take i) ++ [x.f0] := by rw [htk]; unfold tagsOf; simp
  have hln : (tagsOf (l.take i)).length = i := by unfold tagsOf; rw [List.length_map, List.length_take]; omega
  have hln1 : (tagsOf (l.take (i + 1))).length = i + 1 := by unfold tagsOf; rw [List.length_map, List.length_take]; omega
  have hlow3 : Below (B + 3) wr w3 := (hW.mono hsz).trans hb3
  have ht3 : Turned (fun k => k = B + 1 + 1 ∨ B + 3 ≤ k) wr w3 := ⟨hlow3.os, hlow3.tape, hlow3.output, hlow3.size, fun k _ hk => hlow3.block k (by omega)⟩
  have ht4 : Turned (fun k => k = B + 1 + 1 ∨ B + 3 ≤ k) wr (w3.setCell ⟨B + 1 + 1, 0, none⟩ (.slice A3 (i + 1) c3)) := ht3.setCell (p := ⟨B + 1 + 1, 0, none⟩) (.inl rfl) _
  have vals4 := h.form.vals.turned (ht4.drew) (by show ¬ (B = B + 1 + 1 ∨ B + 3 ≤ B); omega)
  obtain ⟨w5, hrun, hv5, hg5⟩ := vals4.put x.f0 ht x.f1 (by omega) (by show (tagsOf (l.take i)).length < _; omega)
  refine ⟨w5, hrun, ?_⟩
  replace hg5 : (w3.setCell ⟨B + 1 + 1, 0, none⟩ (.slice A3 (i + 1) c3)).grownBy w5 (some B) := ⟨hg5.os, hg5.tape, hg5.output, hg5.size, hg5.block⟩
  have ht5 : Turned (fun k => k = B ∨ k = B + 1 + 1 ∨ B + 3 ≤ k) wr w5 := by
    have a1 : Turned (fun k => k = B ∨ k = B + 1 + 1 ∨ B + 3 ≤ k) wr (w3.setCell ⟨B + 1 + 1, 0, none⟩ (.slice A3 (i + 1) c3)) := ⟨ht4.os, ht4.tape, ht4.output, ht4.size, fun k hk hs => ht4.block k hk (fun e => hs (.inr e))⟩
    exact a1.trans (Turned.of_grown hg5 (.inl rfl))
  have hgn : some (B + 1 + 1) ≠ some B := fun e => by have := Option.some.inj e; omega
  have hcell : ∀ (j : Nat) (v : Value), j ≠ 0 → wr.cell? ⟨B + 1 + 1, j, none⟩ = some v → w5.cell? ⟨B + 1 + 1, j, none⟩ = some v := fun j v hj hv =>
    hg5.cell (a := ⟨B + 1 + 1, j, none⟩) ((World.cell?_setCell_other _ _ _ _ (by intro e; injection e; omega)).trans ((hlow3.cell (p := ⟨B + 1 + 1, j, none⟩) (by show B + 1 + 1 < B + 3; omega)).trans hv)) hgn
  have hgb5 : w5.heap[B + 1 + 1]? = (w3.setCell ⟨B + 1 + 1, 0, none⟩ (.slice A3 (i + 1) c3)).heap[B + 1 + 1]? := hg5.block (B + 1 + 1) (by rw [World.size_setCell]; omega) hgn
  have hfro : ∀ j : Nat, wr.frozen? ⟨B + 1 + 1, j, none⟩ = false → w5.frozen? ⟨B + 1 + 1, j, none⟩ = false := fun j hf => by
    refine (World.frozen?_of_block (w := w3.setCell ⟨B + 1 + 1, 0, none⟩ (.slice A3 (i + 1) c3)) (a := ⟨B + 1 + 1, j, none⟩) hgb5).trans ?_
    rw [World.frozen?_setCell]
    exact (hlow3.frozen (p := ⟨B + 1 + 1, j, none⟩) (by show B + 1 + 1 < B + 3; omega)).trans hf
  have hR5 : Kd.R (Kd.int .i64) 3 w5 (B + 3) (fun _ => True) (.slice A3 (i + 1) c3) (tagsOf (l.take (i + 1))) := by
    rw [htg]
    refine Kd.R_mono (Kd.R_move (Kd.R_bound hR3) (fun k hk => ?_)) (fun _ _ => trivial)
    have hkb := hk.2.1
    have hkl := hk.2.2.1
    exact (hg5.block k (by rw [World.size_setCell]; exact hkl) (fun e => by have : k = B := Option.some.inj e; omega)).trans (Below.heap_setCell _ _ _ _ (by show k ≠ B + 1 + 1; omega))
  have hform : formOf (l.take (i + 1)) = ⟨tagsOf (l.take (i + 1)), fun t => if t = x.f0 then some x.f1 else valsOf (l.take i) t, fun _ => false, 0, 0⟩ := by
    show (⟨tagsOf (l.take (i + 1)), valsOf (l.take (i + 1)), fun _ => false, 0, 0⟩ : FormS) = _
    rw [show valsOf (l.take (i + 1)) = valsOf (l.take i ++ [x]) by rw [htk], valsOf_snoc _ _ hd]
  refine ⟨⟨?_, hcell 1 _ (by decide) h.form.c1, hcell 2 _ (by decide) h.form.c2, hcell 3 _ (by decide) h.form.c3, hcell 4 _ (by decide) h.form.c4, hfro 3 h.form.l3, hfro 4 h.form.l4, ?_, h.form.asked.turned ht5 (by show ¬ (B + 1 = B ∨ B + 1 = B + 1 + 1 ∨ B + 3 ≤ B + 1); omega), ?_, by show B + 1 + 1 ≠ B; omega, by show B + 1 + 1 ≠ B + 1; omega, by show B ≠ B + 1; omega, ?_⟩, hR5, hfro 0 h.live, h.low.trans (ht5.below (fun k hk => by omega) (by omega)), Nat.le_trans hsz ht5.size⟩
  · have e : (formOf (l.take (i + 1))).order.length = i + 1 := hln1
    rw [e]
    exact hg5.cell (a := ⟨B + 1 + 1, 0, none⟩) (World.cell?_setCell_same _ _ _ ((hlow3.cell (p := ⟨B + 1 + 1, 0, none⟩) (by show B + 1 + 1 < B + 3; omega)).trans h.form.c0)) hgn
  · have e : (formOf (l.take (i + 1))).order.length = (formOf (l.take i)).order.length + 1 := by show (tagsOf _).length = (tagsOf _).length + 1; omega
    rw [e, hform]
    exact hv5
  · intro j hj
    have hj2 : j < (tagsOf (l.take (i + 1))).length := hj
    have hj3 : j < l.length := by omega
    obtain ⟨ad, e, hc0⟩ := Kd.at_int (Kd.R_reads' hR5).2.2 (j : Int) (by omega) (by omega)
    have hgd : (tagsOf (l.take (i + 1))).getD j 0 = l[j].f0 := by
      unfold tagsOf
      rw [List.getD_eq_getElem?_getD, List.getElem?_map, List.getElem?_take_of_lt (by omega), List.getElem?_eq_getElem hj3]; rfl
    refine ⟨ad, e, ?_, ?_⟩
    · rw [Int.toNat_natCast] at hc0
      exact hc0
    · show i64ok ((tagsOf (l.take (i + 1))).getD j 0)
      rw [hgd]
      exact hgl _ (List.getElem_mem hj3)
  · intro a ha
    have hb := Kd.R_base hR3 a.block (by rw [show A3 = some a from ha]; rfl)
    constructor
    · show a.block ≠ B + 1 + 1; omega
    · show a.block ≠ B + 1; omega
theorem alloc_cell {w : World} {a : Addr} {v : Value} (h : w.cell? a = some v) (o : Obj) : (w.alloc o).cell? a = some v := (World.cell?_of_block (w := w) (Below.heap_alloc w o a.block (World.block_lt_of_cell? w _ h))).trans h
theorem info_int : (Tryz.prog.info? 3).map (fun i => (i.zero, i.size, i.bytes)) = some (some (.int .i64 0), 1, 8) := by kernel_rfl
theorem map_made39 (w : World) : (Instr.makeMap 93 none).run Tryz.prog w = .ok (.map (some w.heap.size)) (w.alloc (.map #[] 0)) := by kernel_rfl
theorem map_made40 (w : World) : (Instr.makeMap 94 none).run Tryz.prog w = .ok (.map (some w.heap.size)) (w.alloc (.map #[] 0)) := by kernel_rfl
def ReadIs (r : Option FormS × Int) (w : World) (e : Ending) (w' : World) : Prop := Below w.heap.size w w' ∧
  match r with
  | (none, x) => e = .returned (.tuple #[.pointer none, .int .i64 x])
  | (some F, x) => ∃ g p, e = .returned (.tuple #[.pointer (some ⟨g, 0, none⟩), .int .i64 x]) ∧ FormIs g p F 0 w' ∧ w.heap.size ≤ g ∧ w.heap.size ≤ p.a ∧ w.heap.size ≤ p.v ∧ ∀ a, p.A = some a → w.heap.size ≤ a.block
theorem ReadIs.no {r : Option FormS × Int} {w w' : World} {x : Int} (h : (none, x) = r) (hb : Below w.heap.size w w') : ReadIs r w (.returned (.tuple #[.pointer none, .int .i64 x])) w' := by
  subst h; exact ⟨hb, rfl⟩
theorem ReadIs.yes {r : Option FormS × Int} {w w' : World} {x : Int} {F : FormS} {g : Nat} {p : PlS} (h : (some F, x) = r) (hb : Below w.heap.size w w') (hf : FormIs g p F 0 w') (h1 : w.heap.size ≤ g) (h2 : w.heap.size ≤ p.a) (h3 : w.heap.size ≤ p.v) (h4 : ∀ a, p.A = some a → w.heap.size ≤ a.block) :
    ReadIs r w (.returned (.tuple #[.pointer (some ⟨g, 0, none⟩), .int .i64 x])) w' := by
  subst h; exact ⟨hb, g, p, rfl, hf, h1, h2, h3, h4⟩
set_option maxRecDepth 100000 in
set_option maxHeartbeats 4000000 in
theorem read_walk (s : ByteArray) (w : World) (hs : s.size ≤ 140737488351232) :
    Calls Tryz.prog 28 #[.string s] w (ReadIs (readB s) w) := by
  have hfd : tag_Fields.f s = some (fieldsB s, ((fieldsL s.data.toList 0 0).2.1 : Int), ((fieldsL s.data.toList 0 0).2.2 : Int)) := by
    unfold tag_Fields.f; rw [if_pos (by unfold big; omega)]; rfl
  have HFd := Aside0.mk (tag_Fields.calls s _ _ _ w hfd)
  clear hfd
  have HQ : Aside0 (readB s = if (fieldsL s.data.toList 0 0).2.2 ≠ 0 then (none, ((fieldsL s.data.toList 0 0).2.2 : Int)) else if (fieldsB s).length = 0 ∨ (rd_T74 (fieldsB s) 0).f0 ≠ 35 then (none, 110) else if dupL [] (fieldsB s) = true then (none, 111) else (some (formOf (fieldsB s)), 0)) := ⟨rfl⟩
  generalize readB s = rr at *
  have hgood := Aside0.mk (fieldsB_good s)
  have hlen := fieldsB_len s
  generalize fieldsB s = l at *
  generalize (fieldsL s.data.toList 0 0).2.2 = e at *
  generalize (fieldsL s.data.toList 0 0).2.1 = pl at *
  by_cases c1 : e = 0
  · rw [if_neg (by omega)] at HQ
    by_cases c2 : l.length = 0 ∨ (rd_T74 l 0).f0 ≠ 35
    · rw [if_pos c2] at HQ
      have t1 : ((e : Int) != 0) = false := by rw [c1]; rfl
      by_cases c3 : l.length = 0
      · have t2 : ((l.length : Int) == 0) = true := by rw [c3]; rfl
        go_enter Tryz.func28, Tryz.ntmps28
        go_wp2_with (go_at_call 55; refine HFd.out.mono ?_; rintro en w1 ⟨v0, rfl, hR, hb⟩; obtain ⟨A, c, rfl, hc, hC⟩ := Kd.R_reads hR)
        go_ret2
        exact ReadIs.no HQ.out.symm hb
      · have c4 : (rd_T74 l 0).f0 ≠ 35 := by
          rcases c2 with q | q
          · exact absurd q c3
          · exact q
        have t2 : ((l.length : Int) == 0) = false := by rw [beq_eq_false_iff_ne]; omega
        have t3 : ((rd_T74 l 0).f0 != 35) = true := by rw [bne_iff_ne]; exact c4
        go_enter Tryz.func28, Tryz.ntmps28
        go_wp2_with (go_at_call 55; refine HFd.out.mono ?_; rintro en w1 ⟨v0, rfl, hR, hb⟩; obtain ⟨A, c, rfl, hc, hC⟩ := Kd.R_reads hR; obtain ⟨ad, hA, h0, -⟩ := at_T74 hC 0 (by omega) (by omega); subst hA; have h00 : w1.cell? ad = some (.int .i64 (rd_T74 l 0).f0) := h0; clear h0)
        go_ret2
        exact ReadIs.no HQ.out.symm hb
    · rw [if_neg c2] at HQ
      have c3 : 0 < l.length := by omega
      have c4 : (rd_T74 l 0).f0 = 35 := by
        by_cases q : (rd_T74 l 0).f0 = 35
        · exact q
        · exact absurd (.inr q) c2
      have t1 : ((e : Int) != 0) = false := by rw [c1]; rfl
      have t2 : ((l.length : Int) == 0) = false := by rw [beq_eq_false_iff_ne]; omega
      have t3 : ((rd_T74 l 0).f0 != 35) = false := by rw [c4]; rfl
      have hmm := map_made39
      have hmm2 := map_made40
      go_enter Tryz.func28, Tryz.ntmps28
      go_wp2_with (go_at_call 55; refine HFd.out.mono ?_; rintro en w1 ⟨v0, rfl, hR, hb⟩; obtain ⟨A, c, rfl, hc, hC⟩ := Kd.R_reads hR; obtain ⟨ad, hA, h0, -⟩ := at_T74 hC 0 (by omega) (by omega); subst hA; have h00 : w1.cell? ad = some (.int .i64 (rd_T74 l 0).f0) := h0; have HC := Aside0.mk hC; have HBw := Aside0.mk hb; clear hC hR hb h0)
      change Code.wp _ _ _ _ (formW w1)
      go_loopw [35] (fun v35 wr => ∃ (i : Nat) (A : Option Addr) (c' : Nat), v35 = .int .i64 (i : Int) ∧ i ≤ l.length ∧ Aside0 (RdIs l w1.heap.size i A c' w1 wr) ∧ Aside0 (dupL (l.take i) (l.drop i) = dupL [] l)) (fun v35 _ => l.length - (intOf v35).toNat)
      case atStart => exact ⟨0, none, 0, rfl, Nat.zero_le _, ⟨read_start l w1⟩, ⟨rfl⟩⟩
      case round =>
        obtain ⟨i, A, c', rfl, hi, HD, HA⟩ := hrel
        by_cases hlt : i < l.length
        · have k1 : decide ((i : Int) < (l.length : Int)) = true := by rw [decide_eq_true_eq]; omega
          have HCr := Aside0.mk (Kd.C_below HC.out HD.out.low)
          obtain ⟨ad', hA', q0, q1⟩ := at_T74 HCr.out (i : Int) (by omega) (by omega)
          obtain rfl : ad = ad' := Option.some.inj hA'
          have k2 : (0 : Int) ≤ (i : Int) ∧ (i : Int) < (l.length : Int) := by omega
          have hti : ((i : Int)).toNat = i := Int.toNat_natCast i
          have hcl : Tryz.prog.cellsOf 74 = 2 := by kernel_rfl
          have hrd : rd_T74 l (i : Int) = l[i] := by simp [rd_T74, hlt]
          rw [hrd, hti] at q0 q1
          have hgd := hgood.out _ (List.getElem_mem hlt)
          have hdrop : l.drop i = l[i] :: l.drop (i + 1) := List.drop_eq_getElem_cons hlt
          have ht : i64ok l[i].f0 := i64ok_of (by omega) (by omega)
          have HH : Aside0 (∀ W, Below wr.heap.size wr W → Calls Tryz.prog 56 #[.pointer (some ⟨w1.heap.size + 1 + 1, 0, none⟩), .int .i64 l[i].f0] W fun e w' => e = .returned (.bool (valsOf (l.take i) l[i].f0).isSome) ∧ w' = W) :=
            ⟨fun W hW => form_has _ _ _ _ W (HD.out.form.below hW) l[i].f0 ht⟩
          rw [hdrop] at HA
          generalize hx : l[i] = x at *
          have HBX : Aside0 (Below wr.heap.size wr (wr.alloc (.cells #[.int .i64 x.f0, .string x.f1] 74))) := ⟨(Below.refl _ _).alloc (Nat.le_refl _) _⟩
          by_cases cd : (valsOf (l.take i) x.f0).isSome = true
          · have HA2 : Aside0 (dupL [] l = true) := ⟨by rw [← HA.out]; unfold dupL; rw [if_pos cd]⟩
            clear HA hdrop
            rw [cd] at HH
            go_wp2_with (go_at_call 56; refine (HH.out _ HBX.out).mono ?_; rintro e w' ⟨rfl, hh⟩; obtain rfl := hh.symm)
            go_ret2
            exact ReadIs.no (by rw [HQ.out, if_pos HA2.out]) (HBw.out.trans ((HD.out.low.trans (HBX.out.mono (by have := HD.out.size; omega))).mono HBw.out.size))
          · have cd' : (valsOf (l.take i) x.f0).isSome = false := by simpa using cd
            have HA2 : Aside0 (dupL (l.take i ++ [x]) (l.drop (i + 1)) = dupL [] l) := ⟨by have h1 := HA.out; rw [dupL_cons, if_neg cd] at h1; exact h1⟩
            rw [cd'] at HH
            have HRow := Aside0.mk (Kd.R_drew (Kd.R_alloc HD.out.row (.cells #[.int .i64 x.f0, .string x.f1] 74)))
            have hsz := HD.out.size
            have hlow : w1.heap.size + 1 + 1 < w1.heap.size + 3 := by omega
            have hlw : w1.heap.size + 1 + 1 < wr.heap.size := by omega
            have hln : (tagsOf (l.take i)).length = i := by unfold tagsOf; rw [List.length_map, List.length_take]; omega
            have hl8 : ((tagsOf (l.take i)).length + 1) * 8 ≤ 140737488355328 := by omega
            have hszW : w1.heap.size + 3 ≤ (wr.alloc (.cells #[.int .i64 x.f0, .string x.f1] 74)).drew.heap.size := by
              show _ ≤ (wr.alloc (.cells #[.int .i64 x.f0, .string x.f1] 74)).heap.size
              rw [World.size_alloc]; omega
            have hg0 : (wr.alloc (.cells #[.int .i64 x.f0, .string x.f1] 74)).cell? ⟨w1.heap.size + 1 + 1, 0, none⟩ = some (.slice A i c') := by
              have h := alloc_cell HD.out.form.c0 (.cells #[.int .i64 x.f0, .string x.f1] 74)
              rw [show (formOf (l.take i)).order.length = i from hln] at h
              exact h
            have hfz : (wr.alloc (.cells #[.int .i64 x.f0, .string x.f1] 74)).frozen? ⟨w1.heap.size + 1 + 1, 0, none⟩ = false := (HBX.out.frozen (p := ⟨w1.heap.size + 1 + 1, 0, none⟩) hlw).trans HD.out.live
            have hx0 : (wr.alloc (.cells #[.int .i64 x.f0, .string x.f1] 74)).cell? ⟨wr.heap.size, 0, none⟩ = some (.int .i64 x.f0) := by simp [go_sem]
            have hx1 : (wr.alloc (.cells #[.int .i64 x.f0, .string x.f1] 74)).cell? ⟨wr.heap.size, 1, none⟩ = some (.string x.f1) := by simp [go_sem]
            clear HA hdrop
            go_wp2_with (go_at_call 56; refine (HH.out _ HBX.out).mono ?_; rintro e w' ⟨rfl, hh⟩; obtain rfl := hh.symm)
            refine start_ (n := 12) (S := fun w' => w'.cell? ⟨w1.heap.size + 1 + 1, 0, none⟩ = some (.slice A i c') ∧ w'.cell? ⟨wr.heap.size, 0, none⟩ = some (.int .i64 x.f0)) (ds := [8, 11]) #[false, false, false, false, false, false, false, false, false, false, false, false] (by kernel_rfl) rfl rfl ⟨hg0, hx0⟩ (fun hHeld => ?_)
            refine pure_ (i := 0) (N := some 43) (v := ?_) (a' := ?_) #[true, false, false, false, false, false, false, false, false, false, false, false] rfl rfl (by kernel_rfl) (fun _ _ _ h => h) (Or.inl ⟨by rfl, ?_⟩) ?_ ?_
            rotate_left
            · intro w'
              go_simp
              with_reducible rfl
            rotate_left
            · simp only [Act.put, List.setIfInBounds_toArray, List.set_cons_zero, List.set_cons_succ, i64_w, i32_w]
              rfl
            refine pure_ (i := 1) (N := some 44) (v := ?_) (a' := ?_) #[true, true, false, false, false, false, false, false, false, false, false, false] rfl rfl (by kernel_rfl) (fun _ _ _ h => h) (Or.inl ⟨by rfl, ?_⟩) ?_ ?_
            rotate_left
            · intro w'
              go_simp
              with_reducible rfl
            rotate_left
            · simp only [Act.put, List.setIfInBounds_toArray, List.set_cons_zero, List.set_cons_succ, i64_w, i32_w]
              rfl
            refine pure_ (i := 2) (N := some 45) (v := ?_) (a' := ?_) #[true, true, true, false, false, false, false, false, false, false, false, false] rfl rfl (by kernel_rfl) (fun _ _ _ h => h) (Or.inl ⟨by rfl, ?_⟩) ?_ ?_
            rotate_left
            · intro w'
              go_simp
              with_reducible rfl
            rotate_left
            · simp only [Act.put, List.setIfInBounds_toArray, List.set_cons_zero, List.set_cons_succ, i64_w, i32_w]
              rfl
            refine pure_ (i := 3) (N := some 46) (v := ?_) (a' := ?_) #[true, true, true, true, false, false, false, false, false, false, false, false] rfl rfl (by kernel_rfl) (fun _ _ _ h => h) (Or.inl ⟨by rfl, ?_⟩) ?_ ?_
            rotate_left
            · intro w'
              go_simp
              with_reducible rfl
            rotate_left
            · simp only [Act.put, List.setIfInBounds_toArray, List.set_cons_zero, List.set_cons_succ, i64_w, i32_w]
              rfl
            refine pure_ (i := 5) (N := some 48) (v := ?_) (a' := ?_) #[true, true, true, true, false, true, false, false, false, false, false, false] rfl rfl (by kernel_rfl) (fun _ _ _ h => h) (Or.inl ⟨by rfl, ?_⟩) ?_ ?_
            rotate_left
            · intro w'
              go_simp
              with_reducible rfl
            rotate_left
            · simp only [Act.put, List.setIfInBounds_toArray, List.set_cons_zero, List.set_cons_succ, i64_w, i32_w]
              rfl
            refine take_ (i := 4) (N := some 47) (v := ?_) (a' := ?_) #[true, true, true, true, true, true, false, false, false, false, false, false] rfl rfl (by kernel_rfl) (fun _ _ _ h => h) (Or.inl ⟨by rfl, ?_⟩) hHeld ?_ ?_
            rotate_left
            · rintro w' ⟨s0, s1⟩
              go_simp
              with_reducible rfl
            rotate_left
            · simp only [Act.put, List.setIfInBounds_toArray, List.set_cons_zero, List.set_cons_succ, i64_w, i32_w]
              rfl
            refine take_ (i := 6) (N := some 49) (v := ?_) (a' := ?_) #[true, true, true, true, true, true, true, false, false, false, false, false] rfl rfl (by kernel_rfl) (fun _ _ _ h => h) (Or.inl ⟨by rfl, ?_⟩) hHeld ?_ ?_
            rotate_left
            · rintro w' ⟨s0, s1⟩
              go_simp
              with_reducible rfl
            rotate_left
            · simp only [Act.put, List.setIfInBounds_toArray, List.set_cons_zero, List.set_cons_succ, i64_w, i32_w]
              rfl
            refine one_ (i := 7) (N := some 50) #[true, true, true, true, true, true, true, true, false, false, false, false] rfl rfl (by kernel_rfl) (by decide) (fun K hK => ?_)
            refine value_ (w1 := ?_) (v := ?_) (by rfl) rfl ?_ ?_
            rotate_left 2
            · go_simp
              constructor
              · rfl
              · rfl
            refine hK.out _ _ ⟨alloc_cell hHeld.1 _, alloc_cell hHeld.2 _⟩ (fun hHeld => ?_)
            clear hK K
            refine norm_ (a' := ?_) ?_ ?_
            rotate_left
            · show Act.put _ (some 50) _ = _
              simp only [Act.put, List.setIfInBounds_toArray, List.set_cons_zero, List.set_cons_succ, i64_w, i32_w]
              rfl
            refine last_ (i := 8) (N := some 51) #[true, true, true, true, true, true, true, true, true, false, false, false] rfl rfl (by kernel_rfl) (by decide) (fun K hK => ?_)
            refine Kd.R_append_step (Kd.int .i64) (w0 := (wr.alloc (.cells #[.int .i64 x.f0, .string x.f1] 74)).drew) (w1.heap.size + 3) (by rfl) (.tmp 47) (.tmp 50) 22 3 (.int .i64 0) 8 rfl Tryz.underlying22 info_int rfl (by decide) (by decide) (.slice A i c') (tagsOf (l.take i)) x.f0 [.int .i64 x.f0] (fun _ => True) (fun _ => False) (by rfl) (by show _ = Value.slice (some ⟨(wr.alloc (.cells #[.int .i64 x.f0, .string x.f1] 74)).heap.size, 0, none⟩) 1 1; rw [World.size_alloc]; rfl) rfl (fun _ h => h.elim) (fun _ _ => trivial) HRow.out (Below.refl _ _) hszW hl8 ?_
            intro v1 w3 hR3 hb3 hg3 hat3
            obtain ⟨A3, c3, rfl, hc3, -⟩ := Kd.R_reads hR3
            have hcg := (hb3.cell (p := ⟨w1.heap.size + 1 + 1, 0, none⟩) hlow).trans hg0
            have hfg := (hb3.frozen (p := ⟨w1.heap.size + 1 + 1, 0, none⟩) hlow).trans hfz
            refine hK.out _ _ ?_
            clear hK K
            refine norm_ (a' := ?_) ?_ ?_
            rotate_left
            · show Act.put _ (some 51) _ = _
              simp only [Act.put, List.setIfInBounds_toArray, List.set_cons_zero, List.set_cons_succ, i64_w, i32_w]
              rfl
            refine pure_ (i := 9) (N := some 52) (v := ?_) (a' := ?_) #[true, true, true, true, true, true, true, true, true, true, false, false] rfl rfl (by kernel_rfl) (fun _ _ _ h => h) (Or.inl ⟨by rfl, ?_⟩) ?_ ?_
            rotate_left
            · intro w'
              go_simp
              with_reducible rfl
            rotate_left
            · simp only [Act.put, List.setIfInBounds_toArray, List.set_cons_zero, List.set_cons_succ, i64_w, i32_w]
              rfl
            refine pure_ (i := 10) (N := some 53) (v := ?_) (a' := ?_) #[true, true, true, true, true, true, true, true, true, true, true, false] rfl rfl (by kernel_rfl) (fun _ _ _ h => h) (Or.inl ⟨by rfl, ?_⟩) ?_ ?_
            rotate_left
            · intro w'
              go_simp
              with_reducible rfl
            rotate_left
            · simp only [Act.put, List.setIfInBounds_toArray, List.set_cons_zero, List.set_cons_succ, i64_w, i32_w]
              rfl
            refine last_ (i := 11) (N := none) #[true, true, true, true, true, true, true, true, true, true, true, true] rfl rfl (by kernel_rfl) (by decide) (fun K hK => ?_)
            refine skip_ (w1 := ?_) (by rfl) rfl ?_ ?_
            rotate_left
            · go_simp
              rfl
            refine hK.out _ _ ?_
            clear hK K
            refine done_ (by kernel_rfl) ?_
            have hRl := Kd.R_lt HD.out.row
            have e3 : (tagsOf (l.take i) ++ [x.f0]).length = i + 1 := by rw [List.length_append, hln]; rfl
            rw [e3] at hR3
            have hdn : valsOf (l.take i) x.f0 = none := by simpa using cd'
            obtain ⟨w5, hrun5, hD5⟩ := read_step HD.out hlt x hx hdn ht hgd.2.2 hlen (fun y hy => i64ok_of (by have := hgood.out y hy; omega) (by have := hgood.out y hy; omega)) HBX.out.drew hR3 hb3
            have HD5 := Aside0.mk hD5
            have hnb : ∀ v, v = (Value.slice A i c').ownBlock → some wr.heap.size ≠ v := fun v hv e => by
              have := hRl wr.heap.size (by rw [← hv, ← e])
              omega
            have hng : wr.heap.size ≠ w1.heap.size + 1 + 1 := by omega
            have hg1 : (w3.setCell ⟨w1.heap.size + 1 + 1, 0, none⟩ (.slice A3 (i + 1) c3)).cell? ⟨w1.heap.size + 1 + 1, 1, none⟩ = some (.map (some w1.heap.size)) :=
              (World.cell?_setCell_other _ _ _ _ (by simp)).trans ((hb3.cell (p := ⟨w1.heap.size + 1 + 1, 1, none⟩) hlow).trans (alloc_cell HD.out.form.c1 (.cells #[.int .i64 x.f0, .string x.f1] 74)))
            have hx30 : (w3.setCell ⟨w1.heap.size + 1 + 1, 0, none⟩ (.slice A3 (i + 1) c3)).cell? ⟨wr.heap.size, 0, none⟩ = some (.int .i64 x.f0) :=
              (World.cell?_setCell_other _ _ _ _ (by intro e; injection e; omega)).trans (hg3.cell (a := ⟨wr.heap.size, 0, none⟩) hx0 (hnb _ rfl))
            have hx31 : (w3.setCell ⟨w1.heap.size + 1 + 1, 0, none⟩ (.slice A3 (i + 1) c3)).cell? ⟨wr.heap.size, 1, none⟩ = some (.string x.f1) :=
              (World.cell?_setCell_other _ _ _ _ (by intro e; injection e; omega)).trans (hg3.cell (a := ⟨wr.heap.size, 1, none⟩) hx1 (hnb _ rfl))
            clear hD5 hR3 hb3 hg3 hat3 hRl hnb HRow hx0 hx1 hg0 hfz hcg hfg HCr q0 q1
            go_wp2
            refine start_ (n := 9) (S := fun w' => w'.cell? ⟨w1.heap.size + 1 + 1, 1, none⟩ = some (.map (some w1.heap.size)) ∧ w'.cell? ⟨wr.heap.size, 0, none⟩ = some (.int .i64 x.f0) ∧ w'.cell? ⟨wr.heap.size, 1, none⟩ = some (.string x.f1)) (ds := [8]) #[false, false, false, false, false, false, false, false, false] (by kernel_rfl) rfl rfl ⟨hg1, hx30, hx31⟩ (fun hHeld => ?_)
            refine pure_ (i := 0) (N := some 54) (v := ?_) (a' := ?_) #[true, false, false, false, false, false, false, false, false] rfl rfl (by kernel_rfl) (fun _ _ _ h => h) (Or.inl ⟨by rfl, ?_⟩) ?_ ?_
            rotate_left
            · intro w'
              go_simp
              with_reducible rfl
            rotate_left
            · simp only [Act.put, List.setIfInBounds_toArray, List.set_cons_zero, List.set_cons_succ, i64_w, i32_w]
              rfl
            refine pure_ (i := 1) (N := some 55) (v := ?_) (a' := ?_) #[true, true, false, false, false, false, false, false, false] rfl rfl (by kernel_rfl) (fun _ _ _ h => h) (Or.inl ⟨by rfl, ?_⟩) ?_ ?_
            rotate_left
            · intro w'
              go_simp
              with_reducible rfl
            rotate_left
            · simp only [Act.put, List.setIfInBounds_toArray, List.set_cons_zero, List.set_cons_succ, i64_w, i32_w]
              rfl
            refine pure_ (i := 2) (N := some 56) (v := ?_) (a' := ?_) #[true, true, true, false, false, false, false, false, false] rfl rfl (by kernel_rfl) (fun _ _ _ h => h) (Or.inl ⟨by rfl, ?_⟩) ?_ ?_
            rotate_left
            · intro w'
              go_simp
              with_reducible rfl
            rotate_left
            · simp only [Act.put, List.setIfInBounds_toArray, List.set_cons_zero, List.set_cons_succ, i64_w, i32_w]
              rfl
            refine pure_ (i := 4) (N := some 58) (v := ?_) (a' := ?_) #[true, true, true, false, true, false, false, false, false] rfl rfl (by kernel_rfl) (fun _ _ _ h => h) (Or.inl ⟨by rfl, ?_⟩) ?_ ?_
            rotate_left
            · intro w'
              go_simp
              with_reducible rfl
            rotate_left
            · simp only [Act.put, List.setIfInBounds_toArray, List.set_cons_zero, List.set_cons_succ, i64_w, i32_w]
              rfl
            refine pure_ (i := 6) (N := some 60) (v := ?_) (a' := ?_) #[true, true, true, false, true, false, true, false, false] rfl rfl (by kernel_rfl) (fun _ _ _ h => h) (Or.inl ⟨by rfl, ?_⟩) ?_ ?_
            rotate_left
            · intro w'
              go_simp
              with_reducible rfl
            rotate_left
            · simp only [Act.put, List.setIfInBounds_toArray, List.set_cons_zero, List.set_cons_succ, i64_w, i32_w]
              rfl
            refine take_ (i := 3) (N := some 57) (v := ?_) (a' := ?_) #[true, true, true, true, true, false, true, false, false] rfl rfl (by kernel_rfl) (fun _ _ _ h => h) (Or.inl ⟨by rfl, ?_⟩) hHeld ?_ ?_
            rotate_left
            · rintro w' ⟨s0, s1, s2⟩
              go_simp
              with_reducible rfl
            rotate_left
            · simp only [Act.put, List.setIfInBounds_toArray, List.set_cons_zero, List.set_cons_succ, i64_w, i32_w]
              rfl
            refine take_ (i := 5) (N := some 59) (v := ?_) (a' := ?_) #[true, true, true, true, true, true, true, false, false] rfl rfl (by kernel_rfl) (fun _ _ _ h => h) (Or.inl ⟨by rfl, ?_⟩) hHeld ?_ ?_
            rotate_left
            · rintro w' ⟨s0, s1, s2⟩
              go_simp
              with_reducible rfl
            rotate_left
            · simp only [Act.put, List.setIfInBounds_toArray, List.set_cons_zero, List.set_cons_succ, i64_w, i32_w]
              rfl
            refine take_ (i := 7) (N := some 61) (v := ?_) (a' := ?_) #[true, true, true, true, true, true, true, true, false] rfl rfl (by kernel_rfl) (fun _ _ _ h => h) (Or.inl ⟨by rfl, ?_⟩) hHeld ?_ ?_
            rotate_left
            · rintro w' ⟨s0, s1, s2⟩
              go_simp
              with_reducible rfl
            rotate_left
            · simp only [Act.put, List.setIfInBounds_toArray, List.set_cons_zero, List.set_cons_succ, i64_w, i32_w]
              rfl
            refine last_ (i := 8) (N := none) #[true, true, true, true, true, true, true, true, true] rfl rfl (by kernel_rfl) (by decide) (fun K hK => ?_)
            refine skip_ (w1 := ?_) (by rfl) rfl ?_ ?_
            rotate_left
            · go_simp
              rfl
            refine hK.out _ _ ?_
            clear hK K
            refine done_ (by kernel_rfl) ?_
            go_wp2
            have htk2 : l.take (i + 1) = l.take i ++ [x] := by rw [List.take_succ_eq_append_getElem hlt, hx]
            refine ⟨⟨i + 1, A3, c3, by rw [show ((i + 1 : Nat) : Int) = (i : Int) + 1 by omega], by omega, HD5, ⟨by rw [htk2]; exact HA2.out⟩⟩, ?_⟩
            show l.length - ((i : Int) + 1).toNat < l.length - ((i : Int)).toNat
            omega
        · have k1 : decide ((i : Int) < (l.length : Int)) = false := by rw [decide_eq_false_iff_not]; omega
          have hie : i = l.length := by omega
          subst hie
          have HF := Aside0.mk HD.out.form
          have HW := Aside0.mk HD.out.low
          rw [List.take_length] at HF HA
          have HA2 : Aside0 (dupL [] l = false) := ⟨by rw [← HA.out, List.drop_eq_nil_of_le (Nat.le_refl _)]; rfl⟩
          have HRb : Aside0 (∀ a, A = some a → w1.heap.size + 3 ≤ a.block) := ⟨fun a ha => Kd.R_base HD.out.row a.block (by rw [ha]; rfl)⟩
          clear HA HD
          go_wp2
          go_ret2
          have hbs := HBw.out.size
          exact ReadIs.yes (by rw [HQ.out, if_neg (by rw [HA2.out]; decide)]) (HBw.out.trans (HW.out.mono hbs)) HF.out (by omega) (by show w.heap.size ≤ w1.heap.size + 1; omega) hbs (fun a ha => Nat.le_trans (by omega) (HRb.out a ha))
  · rw [if_pos (by omega)] at HQ
    have t1 : ((e : Int) != 0) = true := by rw [bne_iff_ne]; omega
    go_enter Tryz.func28, Tryz.ntmps28
    go_wp2_with (go_at_call 55; refine HFd.out.mono ?_; rintro en w1 ⟨v0, rfl, hR, hb⟩; obtain ⟨A, c, rfl, hc, hC⟩ := Kd.R_reads hR)
    go_ret2
    exact ReadIs.no HQ.out.symm hb
end Go.Proofs.YtgfigkfcmkdjdaaGreatDoor.B
end
section
namespace Go.Proofs.YtgfigkfcmkdjdaaGreatDoor.B
open Go.RowKit Go.Proofs.YtgfigkfcmkdjdaaGreatDoorW.PrintWords Go.Proofs.YtgfigkfcmkdjdaaGreatDoorW.PrintLast Go.Proofs.YtgfigkfcmkdjdaaGreatDoorW.PrintMore
attribute [local go_sem] max2_int min2_int max_two min_two max_three min_three max_four min_four   -- for this text's walks alone
set_option linter.unusedVariables false
set_option linter.unusedSimpArgs false
def mayN (r : Nat) : Bool := decide (33 ≤ r) && (r != 127 && (r != 61 && r != 65533))
theorem mayN_eq (r : Nat) : mayN r = true ↔ 33 ≤ r ∧ r ≠ 127 ∧ r ≠ 61 ∧ r ≠ 65533 := by simp [mayN]
def nameL (l : List UInt8) (n : Nat) : Bool := if _h : l = [] then decide (0 < n) else if 20 ≤ n then false else if mayN (dec l).1 = true then nameL (l.drop (dec l).2) (n + 1) else false
termination_by l.length
decreasing_by all_goals (have := dec_width l; have := List.length_pos_iff.2 _h; simp only [List.length_drop]; omega)
theorem nameL_nil (n : Nat) : nameL [] n = decide (0 < n) := by rw [nameL]; rfl
theorem nameL_full (l : List UInt8) (h : l ≠ []) (n : Nat) (hn : 20 ≤ n) : nameL l n = false := by rw [nameL, dif_neg h, if_pos hn]
theorem nameL_bad (l : List UInt8) (h : l ≠ []) (n : Nat) (hm : mayN (dec l).1 = false) : nameL l n = false := by
  rw [nameL, dif_neg h]
  split
  · rfl
  · rw [if_neg (by rw [hm]; decide)]
theorem nameL_go (l : List UInt8) (h : l ≠ []) (n : Nat) (hn : n < 20) (hm : mayN (dec l).1 = true) : nameL l n = nameL (l.drop (dec l).2) (n + 1) := by
  conv => lhs; rw [nameL]
  rw [dif_neg h, if_neg (by omega), if_pos hm]
theorem roster_may_same (r : Nat) (hr : r ≤ 2147483647) (w : World) :
    Calls Tryz.prog 50 #[.int .i32 (r : Int)] w fun e w' => e = .returned (.bool (mayN r)) ∧ w = w' := by
  by_cases c1 : r < 33
  · have hv : mayN r = false := by unfold mayN; simp; omega
    have t1 : decide ((33 : Int) ≤ (r : Int)) = false := by rw [decide_eq_false_iff_not]; omega
    rw [hv]
    clear hv c1
    go_enter Tryz.func50, Tryz.ntmps50
    go_wp2
    go_ret
    exact ⟨rfl, rfl⟩
  have t1 : decide ((33 : Int) ≤ (r : Int)) = true := by rw [decide_eq_true_eq]; omega
  by_cases c2 : r = 127
  · subst c2
    go_enter Tryz.func50, Tryz.ntmps50
    go_wp2
    go_ret
    exact ⟨rfl, rfl⟩
  by_cases c4 : r = 61
  · subst c4
    go_enter Tryz.func50, Tryz.ntmps50
    go_wp2
    go_ret
    exact ⟨rfl, rfl⟩
  by_cases c3 : r = 65533
  · subst c3
    go_enter Tryz.func50, Tryz.ntmps50
    go_wp2
    go_ret
    exact ⟨rfl, rfl⟩
  have hv : mayN r = true := by rw [mayN_eq]; omega
  have t2 : ((r : Int) == 127) = false := by rw [beq_eq_false_iff_ne]; omega
  have t3 : ((r : Int) != 127) = true := by rw [bne_iff_ne]; omega
  have t4 : ((r : Int) == 65533) = false := by rw [beq_eq_false_iff_ne]; omega
  have t5 : ((r : Int) != 65533) = true := by rw [bne_iff_ne]; omega
  have t6 : ((r : Int) == 61) = false := by rw [beq_eq_false_iff_ne]; omega
  have t7 : ((r : Int) != 61) = true := by rw [bne_iff_ne]; omega
  rw [hv]
  clear hv c1 c2 c3 c4
  go_enter Tryz.func50, Tryz.ntmps50
  go_wp2
  go_ret
  exact ⟨rfl, rfl⟩
def NameIs (b : Bool) (w : World) (e : Ending) (w' : World) : Prop := e = .returned (.bool b) ∧ Below w.heap.size w w'
theorem NameIs.mk_ {a b : Bool} {w w' : World} (h : a = b) (hw : Below w.heap.size w w') : NameIs b w (.returned (.bool a)) w' := by subst h; exact ⟨rfl, hw⟩
set_option maxRecDepth 100000 in
set_option maxHeartbeats 1000000 in
theorem roster_Valid_walk (s : ByteArray) (w : World) (hs : s.size ≤ 9223372036854775807) :
    Calls Tryz.prog 20 #[.string s] w (NameIs (nameL s.data.toList 0) w) := by
  have HB : Aside0 (∀ p, Below w.heap.size w (w.iter s p)) := ⟨fun p => (Below.refl _ _).alloc (Nat.le_refl _) _⟩
  go_enter Tryz.func20, Tryz.ntmps20
  go_wp2
  go_loopw [3] (fun v3 w' => ∃ pos n : Nat, w' = w.iter s pos ∧ v3 = .int .i64 (n : Int) ∧ n ≤ 20 ∧ Aside0 (nameL (s.data.toList.drop pos) n = nameL s.data.toList 0)) (fun _ w' => s.size - w'.iterPos w.heap.size)
  case atStart => exact ⟨0, 0, rfl, rfl, by omega, ⟨rfl⟩⟩
  case round =>
    obtain ⟨pos, n, rfl, rfl, hn, hA⟩ := hrel
    by_cases hp : pos < s.size
    · have hnx : ∀ ty, (Instr.next (.pointer (some ⟨w.heap.size, 0, none⟩)) true ty).run Tryz.prog (w.iter s pos) = _ := fun ty => run_next_any w s pos ty hp
      have hle := decode_le s pos
      have hne := drop_ne_nil s pos hp
      have hwd := dec_width (s.data.toList.drop pos)
      by_cases c20 : 20 ≤ n
      · have hn20 : n = 20 := by omega
        subst hn20
        have HS := Aside0.mk ((nameL_full _ hne 20 (by omega)).symm.trans hA.out)
        clear hA hne hwd c20
        generalize (Utf8.decode s pos).1 = r at *
        generalize (Utf8.decode s pos).2 = wd at *
        go_wp2
        go_ret
        exact NameIs.mk_ HS.out (HB.out _)
      · have t1 : decide ((20 : Int) < (n : Int) + 1) = false := by rw [decide_eq_false_iff_not]; omega
        have t1' : decide (20 < n + 1) = false := by rw [decide_eq_false_iff_not]; omega
        cases hm : mayN (dec (s.data.toList.drop pos)).1 with
        | false =>
          have HS := Aside0.mk ((nameL_bad _ hne n hm).symm.trans hA.out)
          rw [dec_drop] at hm
          clear hA hne hwd
          generalize (Utf8.decode s pos).1 = r at *
          generalize (Utf8.decode s pos).2 = wd at *
          have HM : Aside0 (∀ w, Calls Tryz.prog 50 #[.int .i32 (r : Int)] w fun e w' => e = .returned (.bool false) ∧ w = w') := ⟨fun w => by rw [← hm]; exact roster_may_same r hle w⟩
          clear hm
          go_wp2_with (go_at_call 50; refine (HM.out _).mono ?_; rintro e w1 ⟨rfl, rfl⟩)
          go_ret
          exact NameIs.mk_ HS.out (HB.out _)
        | true =>
          have HS := Aside0.mk ((nameL_go _ hne n (by omega) hm).symm.trans hA.out)
          rw [dec_drop] at hm hwd
          rw [dec_drop, List.drop_drop] at HS
          clear hA hne
          generalize (Utf8.decode s pos).1 = r at *
          generalize (Utf8.decode s pos).2 = wd at *
          have HM : Aside0 (∀ w, Calls Tryz.prog 50 #[.int .i32 (r : Int)] w fun e w' => e = .returned (.bool true) ∧ w = w') := ⟨fun w => by rw [← hm]; exact roster_may_same r hle w⟩
          clear hm
          go_wp2_with (go_at_call 50; refine (HM.out _).mono ?_; rintro e w1 ⟨rfl, rfl⟩)
          go_roundw
          case rel => exact ⟨pos + wd, n + 1, rfl, by rw [show ((n + 1 : Nat) : Int) = (n : Int) + 1 by omega], by omega, HS⟩
          case measure => simp; omega
    · have hnx : ∀ ty, (Instr.next (.pointer (some ⟨w.heap.size, 0, none⟩)) true ty).run Tryz.prog (w.iter s pos) = _ := fun ty => run_next_end w s pos ty hp
      have HS := Aside0.mk (hA.out.symm.trans (by rw [drop_nil_of s pos hp, nameL_nil]))
      clear hA
      go_wp2
      go_ret
      exact NameIs.mk_ (by rw [HS.out]) (HB.out _)
def roster_Valid.f (a0 : ByteArray) : Option Bool := if a0.size ≤ 9223372036854775807 then some (nameL a0.data.toList 0) else none
theorem roster_Valid.calls (a0 : ByteArray) (r : Bool) (w : World) (h : roster_Valid.f a0 = some r) :
    Calls Tryz.prog 20 #[.string a0] w fun e w' => e = .returned (.bool r) ∧ Below w.heap.size w w' := by
  unfold roster_Valid.f at h
  by_cases c : a0.size ≤ 9223372036854775807
  · rw [if_pos c] at h
    obtain rfl := Option.some.inj h
    exact roster_Valid_walk a0 w c
  · rw [if_neg c] at h; cases h
end Go.Proofs.YtgfigkfcmkdjdaaGreatDoor.B
end
section
namespace Go.Proofs.YtgfigkfcmkdjdaaGreatDoor.B
open Go.RowKit Go.Proofs.YtgfigkfcmkdjdaaGreatDoorW.PrintWords Go.Proofs.YtgfigkfcmkdjdaaGreatDoorW.PrintLast Go.Proofs.YtgfigkfcmkdjdaaGreatDoorW.PrintMore
attribute [local go_sem] max2_int min2_int max_two min_two max_three min_three max_four min_four   -- for this text's walks alone
set_option linter.unusedVariables false
set_option linter.unusedSimpArgs false
def takeName (s : ByteArray) : ByteArray × Int := if nameL s.data.toList 0 = true then (s, 0) else (⟨#[]⟩, 43)
theorem name_closure (s : ByteArray) (W : World) (hs : s.size ≤ 140737488351232) :
    Calls Tryz.prog 73 (#[.string s] ++ #[]) W fun e w' => e = .returned (.tuple #[.string (takeName s).1, .int .i64 (takeName s).2]) ∧ Below W.heap.size W w' := by
  have HN := Aside0.mk (roster_Valid_walk s W (by omega))
  unfold takeName
  generalize nameL s.data.toList 0 = b at *
  cases b with
  | true =>
    go_enter Tryz.func73, Tryz.ntmps73
    go_wp2_with (go_at_call 20; refine HN.out.mono ?_; rintro en w1 ⟨rfl, hb⟩)
    go_ret2
    exact ⟨rfl, hb⟩
  | false =>
    go_enter Tryz.func73, Tryz.ntmps73
    go_wp2_with (go_at_call 20; refine HN.out.mono ?_; rintro en w1 ⟨rfl, hb⟩)
    go_ret2
    exact ⟨rfl, hb⟩
set_option maxRecDepth 100000 in
set_option maxHeartbeats 4000000 in
theorem ask_string (g : Nat) (p : PlS) (F : FormS) (k : Nat) (w : World) (h : FormIs g p F k w) (hk : k < 9223372036854775807) (hv : ∀ x s, F.vals x = some s → s.size ≤ 140737488351232) (t : Int) (ht : i64ok t) :
    Calls Tryz.prog 72 #[.pointer (some ⟨g, 0, none⟩), .int .i64 t, .func (.func 73) #[] #[]] w fun e w' =>
      e = .returned (.string (askL takeName ⟨#[]⟩ F t).1) ∧ FormIs g p (askL takeName ⟨#[]⟩ F t).2 (k + 1) w' ∧ Turned (FormB g p) w w' := by
  have hc1 := h.c1
  have hc2 := h.c2
  have hc4 := h.c4
  have HF := Aside0.mk h
  have HIs := Aside0.mk (form_is g p F k w h)
  by_cases he : F.e = 0
  · have t1 : (F.e != 0) = false := by rw [he]; rfl
    obtain ⟨w1, hrun, hAs, hgr⟩ := h.asked.put t ht hk
    have HF1 : Aside0 (FormIs g p (F.mark t) (k + 1) w1) := ⟨h.ask hAs hgr⟩
    have HT : Aside0 (Turned (FormB g p) w w1) := ⟨Turned.of_grown hgr (.inr rfl)⟩
    have HH := Aside0.mk (form_has g p _ _ w1 HF1.out t ht)
    have hc11 := HF1.out.c1
    have hlk := HF1.out.vals.look t ht
    clear hgr hAs
    have hc31 := HF1.out.c3
    have hc41 := HF1.out.c4
    have hl31 := HF1.out.l3
    have hl41 := HF1.out.l4
    rw [show (F.mark t).vals t = F.vals t from rfl] at HH hlk
    cases hvt : F.vals t with
    | none =>
      have HA := Aside0.mk (askL_none takeName ⟨#[]⟩ F t he hvt)
      rw [hvt] at HH hlk
      have HE := Aside0.mk (HF1.out.fail t 110)
      have HT2 : Aside0 (Turned (FormB g p) w ((w1.setCell ⟨g, 3, none⟩ (.int .i64 t)).setCell ⟨g, 4, none⟩ (.int .i64 110))) := ⟨(HT.out.setCell (p := ⟨g, 3, none⟩) (.inl rfl) _).setCell (p := ⟨g, 4, none⟩) (.inl rfl) _⟩
      simp only [Option.isSome_none] at HH
      clear hlk
      go_enter Tryz.func72, Tryz.ntmps72
      go_wp2_with (first | (go_at_call 57; refine HIs.out.mono ?_; rintro e w' ⟨rfl, hh⟩; obtain rfl : w = w' := hh.symm) | (go_at_call 56; refine HH.out.mono ?_; rintro e w' ⟨rfl, hh⟩; obtain rfl : w1 = w' := hh.symm))
      go_ret
      rw [HA.out]
      exact ⟨rfl, HE.out, HT2.out⟩
    | some s =>
      have HA := Aside0.mk (askL_some takeName ⟨#[]⟩ F t he hvt)
      rw [hvt] at HH hlk
      simp only [Option.isSome_some, Option.getD_some] at HH hlk
      have HC := Aside0.mk (name_closure s w1 (hv t s hvt))
      try simp only at HA
      generalize hr : takeName s = r at *
      obtain ⟨n, e⟩ := r
      try simp only at HA HC
      clear hr
      have HR : Aside0 (∀ w2, Below w1.heap.size w1 w2 → FormIs g p (F.mark t) (k + 1) w2 ∧ Turned (FormB g p) w w2) := ⟨fun w2 hb => ⟨HF1.out.below hb, HT.out.trans (Turned.of_below hb)⟩⟩
      have HE : Aside0 (∀ w2, FormIs g p (F.mark t) (k + 1) w2 → Turned (FormB g p) w w2 → FormIs g p ((F.mark t).fail t e) (k + 1) ((w2.setCell ⟨g, 3, none⟩ (.int .i64 t)).setCell ⟨g, 4, none⟩ (.int .i64 e)) ∧ Turned (FormB g p) w ((w2.setCell ⟨g, 3, none⟩ (.int .i64 t)).setCell ⟨g, 4, none⟩ (.int .i64 e))) := ⟨fun w2 h2 ht2 => ⟨h2.fail t e, (ht2.setCell (p := ⟨g, 3, none⟩) (.inl rfl) _).setCell (p := ⟨g, 4, none⟩) (.inl rfl) _⟩⟩
      by_cases ce : e = 0
      · have HA2 : Aside0 (askL takeName ⟨#[]⟩ F t = (n, F.mark t)) := ⟨HA.out.trans (if_pos ce)⟩
        have t2 : (e == 0) = true := by rw [ce]; rfl
        clear HA
        go_enter Tryz.func72, Tryz.ntmps72
        go_wp2_with (first | (go_at_call 57; refine HIs.out.mono ?_; rintro e w' ⟨rfl, hh⟩; obtain rfl : w = w' := hh.symm) | (go_at_call 56; refine HH.out.mono ?_; rintro e w' ⟨rfl, hh⟩; obtain rfl : w1 = w' := hh.symm) | (go_at_call 73; refine HC.out.mono ?_; rintro en w2 ⟨rfl, hb⟩; have HR2 := Aside0.mk (HR.out w2 hb); have hc32 := HR2.out.1.c3; have hc42 := HR2.out.1.c4; have hl32 := HR2.out.1.l3; have hl42 := HR2.out.1.l4; clear hb))
        go_ret
        rw [HA2.out]
        exact ⟨rfl, HR2.out.1, HR2.out.2⟩
      · have HA2 : Aside0 (askL takeName ⟨#[]⟩ F t = (⟨#[]⟩, (F.mark t).fail t e)) := ⟨HA.out.trans (if_neg ce)⟩
        have t2 : (e == 0) = false := by rw [beq_eq_false_iff_ne]; exact ce
        clear HA
        go_enter Tryz.func72, Tryz.ntmps72
        go_wp2_with (first | (go_at_call 57; refine HIs.out.mono ?_; rintro e w' ⟨rfl, hh⟩; obtain rfl : w = w' := hh.symm) | (go_at_call 56; refine HH.out.mono ?_; rintro e w' ⟨rfl, hh⟩; obtain rfl : w1 = w' := hh.symm) | (go_at_call 73; refine HC.out.mono ?_; rintro en w2 ⟨rfl, hb⟩; have HR2 := Aside0.mk (HR.out w2 hb); have hc32 := HR2.out.1.c3; have hc42 := HR2.out.1.c4; have hl32 := HR2.out.1.l3; have hl42 := HR2.out.1.l4; clear hb))
        go_ret
        rw [HA2.out]
        exact ⟨rfl, (HE.out w2 HR2.out.1 HR2.out.2).1, (HE.out w2 HR2.out.1 HR2.out.2).2⟩
  · have HA : Aside0 (askL takeName ⟨#[]⟩ F t = (⟨#[]⟩, F)) := ⟨askL_off _ _ _ _ he⟩
    have t1 : (F.e != 0) = true := by rw [bne_iff_ne]; exact he
    go_enter Tryz.func72, Tryz.ntmps72
    go_wp2_with (go_at_call 57; refine HIs.out.mono ?_; rintro e w' ⟨rfl, hh⟩; obtain rfl : w = w' := hh.symm)
    go_ret
    rw [HA.out]
    exact ⟨rfl, HF.out.mono (by omega), Turned.refl _ _⟩
set_option maxRecDepth 100000 in
set_option maxHeartbeats 4000000 in
theorem form_name (g : Nat) (p : PlS) (F : FormS) (k : Nat) (w : World) (h : FormIs g p F k w) (hk : k < 9223372036854775807) (hv : ∀ x s, F.vals x = some s → s.size ≤ 140737488351232) (t : Int) (ht : i64ok t) :
    Calls Tryz.prog 58 #[.pointer (some ⟨g, 0, none⟩), .int .i64 t] w fun e w' =>
      e = .returned (.string (askL takeName ⟨#[]⟩ F t).1) ∧ FormIs g p (askL takeName ⟨#[]⟩ F t).2 (k + 1) w' ∧ Turned (FormB g p) w w' := by
  have HAk := Aside0.mk (ask_string g p F k w h hk hv t ht)
  go_enter Tryz.func58, Tryz.ntmps58
  go_wp2_with (go_at_call 72; refine HAk.out.mono ?_; rintro e w' ⟨rfl, h1, h2⟩)
  go_ret
  exact ⟨rfl, h1, h2⟩
inductive AskT where
  | name (t : Int)
  | int (t low high : Int)
  | ints (t : Int) (take : ByteArray → List Int × Int)
inductive ValT where
  | s (x : ByteArray)
  | n (x : Int)
  | l (x : List Int)
def ValT.str : ValT → ByteArray
  | .s x => x
  | _ => ⟨#[]⟩
def ValT.num : ValT → Int
  | .n x => x
  | _ => 0
def ValT.nums : ValT → List Int
  | .l x => x
  | _ => []
def askT : AskT → FormS → ValT × FormS
  | .name t, F => (.s (askL takeName ⟨#[]⟩ F t).1, (askL takeName ⟨#[]⟩ F t).2)
  | .int t low high, F => (.n (askL (fun s => takeInt s low high) 0 F t).1, (askL (fun s => takeInt s low high) 0 F t).2)
  | .ints t take, F => (.l (askL take [] F t).1, (askL take [] F t).2)
def asksT : List AskT → FormS → List ValT × FormS
  | [], F => ([], F)
  | a :: r, F => ((askT a F).1 :: (asksT r (askT a F).2).1, (asksT r (askT a F).2).2)
theorem asksT_cons (a : AskT) (r : List AskT) (F : FormS) : asksT (a :: r) F = ((askT a F).1 :: (asksT r (askT a F).2).1, (asksT r (askT a F).2).2) := rfl
theorem askT_name (t : Int) (F : FormS) : askT (.name t) F = (.s (askL takeName ⟨#[]⟩ F t).1, (askL takeName ⟨#[]⟩ F t).2) := rfl
theorem askT_int (t low high : Int) (F : FormS) : askT (.int t low high) F = (.n (askL (fun s => takeInt s low high) 0 F t).1, (askL (fun s => takeInt s low high) 0 F t).2) := rfl
theorem askT_ints (t : Int) (take : ByteArray → List Int × Int) (F : FormS) : askT (.ints t take) F = (.l (askL take [] F t).1, (askL take [] F t).2) := rfl
theorem asksT_name {t : Int} {r : List AskT} {F F' : FormS} {v : ByteArray} (h : askL takeName ⟨#[]⟩ F t = (v, F')) : asksT (.name t :: r) F = (.s v :: (asksT r F').1, (asksT r F').2) := by rw [asksT_cons, askT_name, h]
theorem asksT_int {t low high : Int} {r : List AskT} {F F' : FormS} {v : Int} (h : askL (fun s => takeInt s low high) 0 F t = (v, F')) : asksT (.int t low high :: r) F = (.n v :: (asksT r F').1, (asksT r F').2) := by rw [asksT_cons, askT_int, h]
theorem asksT_ints {t : Int} {take : ByteArray → List Int × Int} {r : List AskT} {F F' : FormS} {v : List Int} (h : askL take [] F t = (v, F')) : asksT (.ints t take :: r) F = (.l v :: (asksT r F').1, (asksT r F').2) := by rw [asksT_cons, askT_ints, h]
end Go.Proofs.YtgfigkfcmkdjdaaGreatDoor.B
end
