/- The functions that the law reaches, as plain Lean functions, and their contracts: texts merged. -/
import Derived.Laws.StructEq
import Derived.Test.YtgfigkfcmkdjdaaGreatDoorzAskEncodes2
import Derived.Test.YtgfigkfcmkdjdaaGreatDoorzAskEncodes0
import Derived.Test.YtgfigkfcmkdjdaaGreatDoorzAskEncodes1
import Derived.Test.YtgfigkfcmkdjdaaGreatDoorzAskEncodes3
import Derived.Test.YtgfigkfcmkdjdaaGreatDoorzAskEncodes4
import Derived.Test.YtgfigkfcmkdjdaaGreatDoorzAskEncodes5
import Derived.Test.YtgfigkfcmkdjdaaGreatDoorzAskEncodes6
import Derived.Test.YtgfigkfcmkdjdaaGreatDoorzAskEncodes7
section
namespace Go.Proofs.YtgfigkfcmkdjdaaGreatDoor.B
open Go.RowKit Go.Proofs.YtgfigkfcmkdjdaaGreatDoorW.PrintWords Go.Proofs.YtgfigkfcmkdjdaaGreatDoorW.PrintLast Go.Proofs.YtgfigkfcmkdjdaaGreatDoorW.PrintMore
attribute [local go_sem] max2_int min2_int max_two min_two max_three min_three max_four min_four   -- for this text's walks alone
set_option linter.unusedVariables false
set_option linter.unusedSimpArgs false
set_option maxRecDepth 100000 in
set_option maxHeartbeats 4000000 in
theorem put_walk (S : Nat → Prop) (g : Nat) (L : List S74) (w : World) (t : Int) (x : Value) (v : ByteArray) (HX : Aside0 (∀ W, Below w.heap.size w W → Calls Tryz.prog 45 #[x] W fun e w' => e = .returned (.string v) ∧ Below W.heap.size W w')) (h : SheetIs S g L w) (hl : L.length ≤ 1000) :
    Calls Tryz.prog 44 (#[.int .i64 t, x] ++ #[.pointer (some ⟨g, 0, none⟩)]) w (SheetTo S g (L ++ [⟨t, v⟩]) w) := by
  have H := Aside0.mk h
  have HLt := Aside0.mk h.lt
  have HFs := Aside0.mk h.fresh
  have HSg := Aside0.mk h.sg
  have hz := h.free
  obtain ⟨A, c, hc, hR⟩ := h.row
  clear h
  have HR0 := Aside0.mk hR
  have HC := Aside0.mk hc
  have HZ := Aside0.mk hz
  clear hR hc hz
  go_enter Tryz.func44, Tryz.ntmps44
  go_wp2
  refine start_ (n := 8) (S := fun w' => w'.cell? ⟨g, 0, none⟩ = some (.slice A L.length c)) (ds := [6, 7]) #[false, false, false, false, false, false, false, false] (by kernel_rfl) rfl rfl (HC.out) (fun hHeld => ?_)
  refine pure_ (i := 1) (N := some 6) (v := ?_) (a' := ?_) #[false, true, false, false, false, false, false, false] rfl rfl (by kernel_rfl) (fun _ _ _ h => h) (Or.inl ⟨by rfl, ?_⟩) ?_ ?_
  rotate_left
  · intro w'
    go_simp
    with_reducible rfl
  rotate_left
  · simp only [Act.put, List.setIfInBounds_toArray, List.set_cons_zero, List.set_cons_succ, i64_w, i32_w]
    rfl
  refine pure_ (i := 2) (N := some 7) (v := ?_) (a' := ?_) #[false, true, true, false, false, false, false, false] rfl rfl (by kernel_rfl) (fun _ _ _ h => h) (Or.inl ⟨by rfl, ?_⟩) ?_ ?_
  rotate_left
  · intro w'
    go_simp
    with_reducible rfl
  rotate_left
  · simp only [Act.put, List.setIfInBounds_toArray, List.set_cons_zero, List.set_cons_succ, i64_w, i32_w]
    rfl
  refine take_ (i := 0) (N := some 5) (v := ?_) (a' := ?_) #[true, true, true, false, false, false, false, false] rfl rfl (by kernel_rfl) (fun _ _ _ h => h) (Or.inl ⟨by rfl, ?_⟩) hHeld ?_ ?_
  rotate_left
  · intro w' s0
    go_simp
    with_reducible rfl
  rotate_left
  · simp only [Act.put, List.setIfInBounds_toArray, List.set_cons_zero, List.set_cons_succ, i64_w, i32_w]
    rfl
  refine one_ (i := 3) (N := some 8) #[true, true, true, true, false, false, false, false] rfl rfl (by kernel_rfl) (by decide) (fun K hK => ?_)
  refine goes_ Tryz.func45 (by kernel_rfl) rfl #[x] (by rfl) rfl rfl (by simp only [List.map_toArray, List.map_cons, List.map_nil]; rfl) ?_
  with_reducible refine (HX.out _ (Below.drew (Below.refl _ _))).mono ?_
  rintro e w1 ⟨rfl, hb1⟩
  refine ⟨_, rfl, ?_⟩
  have HB1 := Aside0.mk (show Below w.heap.size w w1 from ⟨hb1.os, hb1.tape, hb1.output, hb1.size, hb1.block⟩)
  have H1 := Aside0.mk (H.out.below HB1.out)
  have HLt1 := Aside0.mk (Nat.lt_of_lt_of_le HLt.out HB1.out.size)
  have HFr1 : Aside0 (∀ k, w1.heap.size ≤ k → S k ∧ k ≠ g) := ⟨fun k hk => ⟨HFs.out k (Nat.le_trans HB1.out.size hk), by have := HLt1.out; omega⟩⟩
  have HR1 := Aside0.mk (Kd.R_below HR0.out HB1.out)
  have HC1 : Aside0 (w1.cell? ⟨g, 0, none⟩ = some (.slice A L.length c)) := ⟨(World.cell?_of_block (HB1.out.block g HLt.out)).trans HC.out⟩
  have HZ1 : Aside0 (w1.frozen? ⟨g, 0, none⟩ = false) := ⟨(World.frozen?_of_block (w := w) (a := ⟨g, 0, none⟩) (HB1.out.block g HLt.out)).trans HZ.out⟩
  have HB0 : Aside0 (Below 0 w w1) := ⟨HB1.out.mono (Nat.zero_le _)⟩
  refine hK.out _ _ ((hb1.cell (p := ⟨g, 0, none⟩) HLt.out).trans hHeld) (fun hHeld => ?_)
  clear hK K
  refine norm_ (a' := ?_) ?_ ?_
  rotate_left
  · show Act.put _ (some 8) _ = _
    simp only [Act.put, List.setIfInBounds_toArray, List.set_cons_zero, List.set_cons_succ, i64_w, i32_w]
    rfl
  refine pure_ (i := 4) (N := some 9) (v := ?_) (a' := ?_) #[true, true, true, true, true, false, false, false] rfl rfl (by kernel_rfl) (fun _ _ _ h => h) (Or.inl ⟨by rfl, ?_⟩) ?_ ?_
  rotate_left
  · intro w'
    go_simp
    with_reducible rfl
  rotate_left
  · simp only [Act.put, List.setIfInBounds_toArray, List.set_cons_zero, List.set_cons_succ, i64_w, i32_w]
    rfl
  refine one_ (i := 5) (N := some 10) #[true, true, true, true, true, true, false, false] rfl rfl (by kernel_rfl) (by decide) (fun K hK => ?_)
  refine value_ (w1 := ?_) (v := ?_) (by rfl) rfl ?_ ?_
  rotate_left 2
  · go_simp
    constructor
    · rfl
    · rfl
  refine hK.out _ _ (alloc_cell hHeld _) (fun hHeld => ?_)
  clear hK K
  refine norm_ (a' := ?_) ?_ ?_
  rotate_left
  · show Act.put _ (some 10) _ = _
    simp only [Act.put, List.setIfInBounds_toArray, List.set_cons_zero, List.set_cons_succ, i64_w, i32_w]
    rfl
  refine last_ (i := 6) (N := some 11) #[true, true, true, true, true, true, true, false] rfl rfl (by kernel_rfl) (by decide) (fun K hK => ?_)
  refine Kd.R_append_step k74 (w0 := w) (W := w1) 0 (by rfl) (.tmp 5) (.tmp 10) 42 74 (.agg #[.int .i64 0, .string ⟨#[]⟩]) 24 rfl Tryz.underlying42 info_field_e rfl (by decide) (by decide) (.slice A L.length c) L ⟨t, v⟩ [.int .i64 t, .string v] (fun k => S k ∧ k ≠ g) (fun _ => False) (by rfl) (by rfl) (k74_mkM _ _ _ ⟨t, v⟩) (fun _ h => h.elim) HFr1.out HR1.out HB0.out (Nat.zero_le _) (by omega) ?_
  intro v8 w8 hR8 hb8 hg8 hat8
  have hR8k := Aside0.mk hR8
  have hg8k := Aside0.mk hg8
  obtain ⟨A8, c8, rfl, hc8, hC8⟩ := Kd.R_reads hR8
  have hbk := hg8.block g HLt1.out (Kd.R_away HR1.out (fun k hk => hk.2))
  have e8 : w8.cell? ⟨g, 0, none⟩ = some (.slice A L.length c) := (World.cell?_of_block hbk).trans HC1.out
  have z8 : w8.frozen? ⟨g, 0, none⟩ = false := (World.frozen?_of_block (w := w1) (a := ⟨g, 0, none⟩) hbk).trans HZ1.out
  have Z8 := Aside0.mk z8
  have E8 := Aside0.mk e8
  have HAt := Aside0.mk hat8
  clear hR8 hb8 hg8 hat8 hc8 hC8 hbk
  refine hK.out _ _ ?_
  clear hK K
  refine norm_ (a' := ?_) ?_ ?_
  rotate_left
  · show Act.put _ (some 11) _ = _
    simp only [Act.put, List.setIfInBounds_toArray, List.set_cons_zero, List.set_cons_succ, i64_w, i32_w]
    rfl
  refine last_ (i := 7) (N := none) #[true, true, true, true, true, true, true, true] rfl rfl (by kernel_rfl) (by decide) (fun K hK => ?_)
  refine skip_ (w1 := ?_) (by rfl) rfl ?_ ?_
  rotate_left
  · go_simp
    rfl
  refine hK.out _ _ ?_
  clear hK K
  refine done_ (by kernel_rfl) ?_
  go_end0
  refine ⟨rfl, ⟨⟨A8, c8, by rw [show (L ++ [(⟨t, v⟩ : S74)]).length = L.length + 1 by simp]; exact World.cell?_setCell_same _ _ _ E8.out, Kd.R_far hR8k.out (fun k hk => hk.2) _⟩, (World.frozen?_setCell _ _ _ _).trans Z8.out, HSg.out, fun k hk => HFs.out k ?_⟩, ?_⟩
  · have q := hg8k.out.size
    have q1 := HB1.out.size
    rw [World.size_setCell] at hk
    omega
  · exact (Turned.of_below HB1.out).trans ((Turned.of_grown' hg8k.out (fun b hb => (HR0.out.1 b hb).1)).setCell HSg.out _)
theorem two_head (W : World) (x y : S74) :
    Kd.R k74 74 (W.alloc (.cells #[.int .i64 x.f0, .string x.f1, .int .i64 y.f0, .string y.f1] 74)) 0 (fun k => k = W.heap.size) (.slice (some ⟨W.heap.size, 0, none⟩) 2 2) [x, y] := by
  have hr : Reps (Kd.M k74 (W.alloc (.cells #[.int .i64 x.f0, .string x.f1, .int .i64 y.f0, .string y.f1] 74)) 0 (fun k => k = W.heap.size ∧ some k ≠ Value.ownBlock (.slice (some ⟨W.heap.size, 0, none⟩) 2 2))) 2 [x, y] [.int .i64 x.f0, .string x.f1, .int .i64 y.f0, .string y.f1] :=
    ⟨rfl, fun j z hj => by
      match j, hj with
      | 0, hj => obtain rfl : x = z := Option.some.inj hj; exact k74_mkM _ _ _ x
      | 1, hj => obtain rfl : y = z := Option.some.inj hj; exact k74_mkM _ _ _ y
      | m + 2, hj => simp at hj⟩
  exact ⟨fun k hk => by simp [Value.ownBlock] at hk; exact hk.symm, OwnRow.lit (e := 74) W 0 hr (Nat.zero_le _) (by show 2 ≤ _; decide)⟩
structure OutAt (w : World) (b : Nat) (cs : Array Value) (T : TypeId) (g q : Nat) (L : List S74) (W : World) : Prop where
  box : W.heap[b]? = some (.cells cs T (0, 0))
  gz : W.heap[g]? = some (.cells #[.slice none 0 0] 42 (0, 0))
  row : Kd.R k74 74 W 0 (fun k => k = q) (.slice (some ⟨q, 0, none⟩) 2 2) L
  gw : w.heap.size ≤ g
  gb : g ≠ b
  gq : q ≠ g
  qw : w.heap.size ≤ q
  qb : q ≠ b
  bl : b < W.heap.size
  low : Below w.heap.size w W
section
variable {w w1 w2 : World} {b : Nat} {cs : Array Value} {T : TypeId}
theorem OutAt.mk1 (hw : w.heap.size ≤ b) (hx : w1.heap[b]? = some (.cells cs T (0, 0))) (hb : b < w1.heap.size) (hl : Below w.heap.size w w1) (h2 : Below w1.heap.size w1 w2) (x y : S74) :
    OutAt w b cs T (w2.heap.size + 1) w2.heap.size [x, y] ((w2.alloc (.cells #[.int .i64 x.f0, .string x.f1, .int .i64 y.f0, .string y.f1] 74)).alloc (.cells #[.slice none 0 0] 42)) := by
  have hs := h2.size
  have s1 : (w2.alloc (.cells #[.int .i64 x.f0, .string x.f1, .int .i64 y.f0, .string y.f1] 74)).heap.size = w2.heap.size + 1 := World.size_alloc _ _
  have n2 := blk_new (w2.alloc (.cells #[.int .i64 x.f0, .string x.f1, .int .i64 y.f0, .string y.f1] 74)) (.cells #[.slice none 0 0] 42)
  rw [s1] at n2
  have hl1 := hl.size
  exact ⟨blk_alloc (blk_alloc (blk_below hx h2) _) _, n2, Kd.R_alloc (two_head w2 x y) _, by omega, by omega, by omega, by omega, by omega, by rw [World.size_alloc, s1]; omega, ((hl.trans (h2.mono hl1)).alloc (by omega) _).alloc (by rw [s1]; omega) _⟩
theorem OutAt.mk2 (hw : w.heap.size ≤ b) (hx : w1.heap[b]? = some (.cells cs T (0, 0))) (hb : b < w1.heap.size) (hl : Below w.heap.size w w1) (h2 : Below w1.heap.size w1 w2) (x y : S74) :
    OutAt w b cs T w2.heap.size (w2.heap.size + 1) [x, y] ((w2.alloc (.cells #[.slice none 0 0] 42)).alloc (.cells #[.int .i64 x.f0, .string x.f1, .int .i64 y.f0, .string y.f1] 74)) := by
  have hs := h2.size
  have s1 : (w2.alloc (.cells #[.slice none 0 0] 42)).heap.size = w2.heap.size + 1 := World.size_alloc _ _
  have n2 := two_head (w2.alloc (.cells #[.slice none 0 0] 42)) x y
  rw [s1] at n2
  have hl1 := hl.size
  exact ⟨blk_alloc (blk_alloc (blk_below hx h2) _) _, blk_alloc (blk_new _ _) _, n2, by omega, by omega, by omega, by omega, by omega, by rw [World.size_alloc, s1]; omega, ((hl.trans (h2.mono hl1)).alloc (by omega) _).alloc (by rw [s1]; omega) _⟩
theorem OutAt.mk3 (hw : w.heap.size ≤ b) (hx : w1.heap[b]? = some (.cells cs T (0, 0))) (hb : b < w1.heap.size) (hl : Below w.heap.size w w1) (h2 : Below (w1.alloc (.cells #[.slice none 0 0] 42)).heap.size (w1.alloc (.cells #[.slice none 0 0] 42)) w2) (x y : S74) :
    OutAt w b cs T w1.heap.size w2.heap.size [x, y] (w2.alloc (.cells #[.int .i64 x.f0, .string x.f1, .int .i64 y.f0, .string y.f1] 74)) := by
  have s1 : (w1.alloc (.cells #[.slice none 0 0] 42)).heap.size = w1.heap.size + 1 := World.size_alloc _ _
  have h2' := h2
  have hs := h2.size
  rw [s1] at hs
  have hl1 := hl.size
  exact ⟨blk_alloc (blk_below (blk_alloc hx _) h2') _, blk_alloc (blk_below (blk_new _ _) h2') _, two_head w2 x y, by omega, by omega, by omega, by omega, by omega, by rw [World.size_alloc]; omega, (((hl.alloc hl1 _).trans (h2.mono (by rw [s1]; omega)))).alloc (by omega) _⟩
theorem OutAt.fill {g q : Nat} {x y : S74} {W : World} (h : OutAt w b cs T g q [x, y] W) : FillAt w.heap.size g b cs T [x, y] w (W.setCell ⟨g, 0, none⟩ (.slice (some ⟨q, 0, none⟩) 2 2)) := by
  have hc := blk_cell h.gz 0
  refine ⟨⟨⟨some ⟨q, 0, none⟩, 2, World.cell?_setCell_same _ _ _ hc, Kd.R_far (Kd.R_mono h.row (fun k hk => by subst hk; exact ⟨⟨h.qw, h.qb⟩, h.gq⟩)) (fun k hk => hk.2) _⟩, (World.frozen?_setCell _ _ _ _).trans (blk_frozen h.gz 0), ⟨h.gw, h.gb⟩, fun k hk => ?_⟩, (Below.heap_setCell _ _ _ _ (Ne.symm h.gb)).trans h.box, Turned.of_below (h.low.setCell h.gw _)⟩
  rw [World.size_setCell] at hk
  have := h.low.size
  have := h.bl
  exact ⟨by omega, by omega⟩
end
section
variable {N g b : Nat} {cs : Array Value} {T : TypeId} {L : List S74} {W w w' : World}
theorem FillAt.put (h : FillAt N g b cs T L W w) (t : Int) (x : Value) (v : ByteArray) (HX : ∀ X, Turned (fun k => N ≤ k) W X → Calls Tryz.prog 45 #[x] X fun e w' => e = .returned (.string v) ∧ Below X.heap.size X w') (hl : L.length ≤ 1000) :
    Calls Tryz.prog 44 #[.int .i64 t, x, .pointer (some ⟨g, 0, none⟩)] w fun e w' => e = .returned (.tuple #[]) ∧ FillAt N g b cs T (L ++ [⟨t, v⟩]) W w' :=
  (put_walk _ g L w t x v ⟨fun X hX => HX X (h.low.trans (Turned.of_below hX))⟩ h.sheet hl).mono fun _ _ hh => ⟨hh.1, h.to hh.2.1 hh.2.2⟩
end
theorem own_raise_ {e base base' : Nat} {size n : Nat} {v : Value} {xs : List Value} {w : World} (h : w.ownsRow base e size v n xs) (hb : ∀ k, v.ownBlock = some k → base' ≤ k) : w.ownsRow base' e size v n xs := by
  obtain ⟨h1, h2⟩ := h
  refine ⟨h1, ?_⟩
  rcases h2 with h2 | ⟨g, cap, cur, rfl, hg, r⟩
  · exact .inl h2
  · exact .inr ⟨g, cap, cur, rfl, hb g (by simp [Value.ownBlock]), r⟩
def FieldsTo (L : List S74) (w : World) (e : Ending) (w' : World) : Prop := ∃ v : Value, e = .returned v ∧ Kd.R k74 74 w' w.heap.size (fun _ => True) v L ∧ Below w.heap.size w w'
theorem FieldsTo.mk_ {L L' : List S74} {w w' : World} {ok : Nat → Prop} {A : Option Addr} {m c : Nat} (hR : Kd.R k74 74 w' 0 ok (.slice A m c) L') (hL : L' = L) (hb : Below w.heap.size w w') (hok : ∀ k, ok k → w.heap.size ≤ k := by intro k h; exact h.1.1) : FieldsTo L w (.returned (.slice A m c)) w' := by
  subst hL
  obtain ⟨h0, inner, ho, hr⟩ := hR
  exact ⟨_, rfl, ⟨fun _ _ => trivial, inner, own_raise_ ho (fun k hk => hok k (h0 k hk)), hr.imp_ (fun x cs hp => by
    obtain rfl := k74_open (Kd.K_of_M _ hp)
    exact k74_mkM _ _ _ x)⟩, hb⟩
theorem text_str (s : ByteArray) (W : World) : Calls Tryz.prog 45 #[.iface 9 (.string s)] W fun e w' => e = .returned (.string s) ∧ Below W.heap.size W w' := by
  have hta : ∀ w, (Instr.typeAssert (.iface 9 (.string s)) 20 9 true).run Tryz.prog w = .ok (.tuple #[.string s, .bool true]) w := fun _ => by kernel_rfl
  have HB := Aside0.mk (Below.refl W.heap.size W)
  go_enter Tryz.func45, Tryz.ntmps45
  go_wp2
  go_ret
  exact ⟨rfl, HB.out⟩
theorem text_int (n : Int) (W : World) (v : ByteArray) (HI : Calls Tryz.prog 67 #[.int .i64 n] W fun e w' => e = .returned (.string v) ∧ Below W.heap.size W w') : Calls Tryz.prog 45 #[.iface 3 (.int .i64 n)] W fun e w' => e = .returned (.string v) ∧ Below W.heap.size W w' := by
  have ht1 : ∀ w, (Instr.typeAssert (.iface 3 (.int .i64 n)) 20 9 true).run Tryz.prog w = .ok (.tuple #[.string ⟨#[]⟩, .bool false]) w := fun _ => by kernel_rfl
  have ht2 : ∀ w, (Instr.typeAssert (.iface 3 (.int .i64 n)) 20 3 true).run Tryz.prog w = .ok (.tuple #[.int .i64 n, .bool true]) w := fun _ => by kernel_rfl
  have H := Aside0.mk HI
  clear HI
  go_enter Tryz.func45, Tryz.ntmps45
  go_wp2_with (go_at_call 67; ((with_reducible refine H.out.mono ?_)); rintro e w1 ⟨rfl, hb⟩; have HB := Aside0.mk hb; clear hb)
  go_ret
  exact ⟨rfl, HB.out⟩
theorem text_ints (A : Option Addr) (m c : Nat) (W : World) (v : ByteArray) (HI : Calls Tryz.prog 69 #[.slice A m c] W fun e w' => e = .returned (.string v) ∧ Below W.heap.size W w') : Calls Tryz.prog 45 #[.iface 22 (.slice A m c)] W fun e w' => e = .returned (.string v) ∧ Below W.heap.size W w' := by
  have ht1 : ∀ w, (Instr.typeAssert (.iface 22 (.slice A m c)) 20 9 true).run Tryz.prog w = .ok (.tuple #[.string ⟨#[]⟩, .bool false]) w := fun _ => by kernel_rfl
  have ht2 : ∀ w, (Instr.typeAssert (.iface 22 (.slice A m c)) 20 3 true).run Tryz.prog w = .ok (.tuple #[.int .i64 0, .bool false]) w := fun _ => by kernel_rfl
  have ht3 : ∀ w, (Instr.typeAssert (.iface 22 (.slice A m c)) 20 22 true).run Tryz.prog w = .ok (.tuple #[.slice A m c, .bool true]) w := fun _ => by kernel_rfl
  have H := Aside0.mk HI
  clear HI
  go_enter Tryz.func45, Tryz.ntmps45
  go_wp2_with (go_at_call 69; ((with_reducible refine H.out.mono ?_)); rintro e w1 ⟨rfl, hb⟩; have HB := Aside0.mk hb; clear hb)
  go_ret
  exact ⟨rfl, HB.out⟩
set_option maxRecDepth 100000 in
set_option maxHeartbeats 8000000 in
theorem fields_1_2 (w : World) (hT_ : Aside0 (Tabs_ w)) (n sd q p al st en rt sh : Int) (id tg ac sy kw nb : ByteArray) (A : Option Addr) (c : Nat) (l : List Int) (HKd : Aside0 (∀ X, Calls Tryz.prog 19 #[.int .i64 n] X fun e w' => e = .returned (.string kw) ∧ Drawn0 X w')) (t1 : (n == 1) = true) (t3 : (al == 2) = true) (hr_sd : 0 ≤ sd ∧ sd ≤ 9223372036854775807) (hr_q : 0 ≤ q ∧ q ≤ 9223372036854775807) (hr_p : 0 ≤ p ∧ p ≤ 9223372036854775807) (hr_al : 0 ≤ al ∧ al ≤ 9223372036854775807) (hr_st : 0 ≤ st ∧ st ≤ 9223372036854775807) (hr_en : 0 ≤ en ∧ en ≤ 9223372036854775807) (HNb : Aside0 (∀ X, Turned (fun k => w.heap.size ≤ k) w X → Calls Tryz.prog 69 #[.slice A l.length c] X fun e w' => e = .returned (.string nb) ∧ Below X.heap.size X w')) :
    Calls Tryz.prog 16 #[.agg #[.int .i64 n, .string id, .string tg, .string ac, .string sy, .int .i64 sd, .int .i64 q, .int .i64 p, .int .i64 al, .int .i64 st, .int .i64 en, .int .i64 rt, .int .i64 sh, .slice A l.length c]] w fun e w' => FieldsTo [⟨35, kw⟩, ⟨11, id⟩, ⟨1, ac⟩, ⟨55, sy⟩, ⟨54, digitsB sd⟩, ⟨38, digitsB q⟩, ⟨44, digitsB p⟩, ⟨5001, digitsB al⟩, ⟨5002, digitsB st⟩, ⟨5003, digitsB en⟩, ⟨5006, nb⟩] w e w' := by
  have HX0 := Aside0.mk (blk_new w (.cells #[.int .i64 n, .string id, .string tg, .string ac, .string sy, .int .i64 sd, .int .i64 q, .int .i64 p, .int .i64 al, .int .i64 st, .int .i64 en, .int .i64 rt, .int .i64 sh, .slice A l.length c] 24))
  have HbL : Aside0 (w.heap.size < (w.alloc (.cells #[.int .i64 n, .string id, .string tg, .string ac, .string sy, .int .i64 sd, .int .i64 q, .int .i64 p, .int .i64 al, .int .i64 st, .int .i64 en, .int .i64 rt, .int .i64 sh, .slice A l.length c] 24)).heap.size) := ⟨by rw [World.size_alloc]; omega⟩
  have HLo : Aside0 (Below w.heap.size w (w.alloc (.cells #[.int .i64 n, .string id, .string tg, .string ac, .string sy, .int .i64 sd, .int .i64 q, .int .i64 p, .int .i64 al, .int .i64 st, .int .i64 en, .int .i64 rt, .int .i64 sh, .slice A l.length c] 24))) := ⟨(Below.refl _ _).alloc (Nat.le_refl _) _⟩
  have HIt : Aside0 (∀ X x, Turned (fun k => w.heap.size ≤ k) w X → 0 ≤ x ∧ x ≤ 9223372036854775807 → Calls Tryz.prog 67 #[.int .i64 x] X fun e w' => e = .returned (.string (digitsB x)) ∧ Below X.heap.size X w') := ⟨fun X x hX hx => strconv_Itoa.calls x _ X ⟨hT_.out.below (hX.below (fun _ h => h) (Nat.le_refl _))⟩ (by unfold strconv_Itoa.f; rw [if_pos hx])⟩
  have HR_sd := Aside0.mk hr_sd
  have HR_q := Aside0.mk hr_q
  have HR_p := Aside0.mk hr_p
  have HR_al := Aside0.mk hr_al
  have HR_st := Aside0.mk hr_st
  have HR_en := Aside0.mk hr_en
  clear hr_sd hr_q hr_p hr_al hr_st hr_en
  have hmf : ∀ (fn : Fn) (first cap : Array Value) (w : World), (Instr.makeFunc fn first cap).run Tryz.prog w = .ok (.func fn first cap) w := fun _ _ _ _ => rfl
  have hcs : Tryz.prog.concrete 9 = true := by kernel_rfl
  have hci : Tryz.prog.concrete 3 = true := by kernel_rfl
  have hcl : Tryz.prog.concrete 22 = true := by kernel_rfl
  go_enter Tryz.func16, Tryz.ntmps16
  go_wp2
  refine start_ (n := 10) (S := fun w' => (∀ i, w'.cell? ⟨w.heap.size, i, none⟩ = (#[.int .i64 n, .string id, .string tg, .string ac, .string sy, .int .i64 sd, .int .i64 q, .int .i64 p, .int .i64 al, .int .i64 st, .int .i64 en, .int .i64 rt, .int .i64 sh, .slice A l.length c] : Array Value)[i]?) ∧ (w.heap.size < w'.heap.size)) (ds := [9]) #[false, false, false, false, false, false, false, false, false, false] (by kernel_rfl) rfl rfl ⟨(fun i => blk_cell HX0.out i), HbL.out⟩ (fun hHeld => ?_)
  refine pure_ (i := 0) (N := some 5) (v := ?_) (a' := ?_) #[true, false, false, false, false, false, false, false, false, false] rfl rfl (by kernel_rfl) (fun _ _ _ h => h) (Or.inl ⟨by rfl, ?_⟩) ?_ ?_
  rotate_left
  · intro w'
    go_simp
    with_reducible rfl
  rotate_left
  · simp only [Act.put, List.setIfInBounds_toArray, List.set_cons_zero, List.set_cons_succ, i64_w, i32_w]
    rfl
  refine pure_ (i := 4) (N := some 9) (v := ?_) (a' := ?_) #[true, false, false, false, true, false, false, false, false, false] rfl rfl (by kernel_rfl) (fun _ _ _ h => h) (Or.inl ⟨by rfl, ?_⟩) ?_ ?_
  rotate_left
  · intro w'
    go_simp
    with_reducible rfl
  rotate_left
  · simp only [Act.put, List.setIfInBounds_toArray, List.set_cons_zero, List.set_cons_succ, i64_w, i32_w]
    rfl
  refine take_ (i := 1) (N := some 6) (v := ?_) (a' := ?_) #[true, true, false, false, true, false, false, false, false, false] rfl rfl (by kernel_rfl) (fun _ _ _ h => h) (Or.inl ⟨by rfl, ?_⟩) hHeld ?_ ?_
  rotate_left
  · rintro w' ⟨s0, s1⟩
    go_simp
    with_reducible rfl
  rotate_left
  · simp only [Act.put, List.setIfInBounds_toArray, List.set_cons_zero, List.set_cons_succ, i64_w, i32_w]
    rfl
  refine take_ (i := 5) (N := some 10) (v := ?_) (a' := ?_) #[true, true, false, false, true, true, false, false, false, false] rfl rfl (by kernel_rfl) (fun _ _ _ h => h) (Or.inl ⟨by rfl, ?_⟩) hHeld ?_ ?_
  rotate_left
  · rintro w' ⟨s0, s1⟩
    go_simp
    with_reducible rfl
  rotate_left
  · simp only [Act.put, List.setIfInBounds_toArray, List.set_cons_zero, List.set_cons_succ, i64_w, i32_w]
    rfl
  refine pure_ (i := 6) (N := some 11) (v := ?_) (a' := ?_) #[true, true, false, false, true, true, true, false, false, false] rfl rfl (by kernel_rfl) (fun _ _ _ h => h) (Or.inl ⟨by rfl, ?_⟩) ?_ ?_
  rotate_left
  · intro w'
    go_simp
    with_reducible rfl
  rotate_left
  · simp only [Act.put, List.setIfInBounds_toArray, List.set_cons_zero, List.set_cons_succ, i64_w, i32_w]
    rfl
  refine join_ (σ := Nat × Nat) 1 #[true, true, true, true, true, true, true, true, true, false] (fun s_ => [(7, .string kw), (12, .slice (some ⟨s_.2, 0, none⟩) 2 2), (3, .pointer (some ⟨s_.1, 0, none⟩)), (8, .agg #[.int .i64 35, .string kw])]) (fun s_ w' => ((∀ i, w'.cell? ⟨w.heap.size, i, none⟩ = (#[.int .i64 n, .string id, .string tg, .string ac, .string sy, .int .i64 sd, .int .i64 q, .int .i64 p, .int .i64 al, .int .i64 st, .int .i64 en, .int .i64 rt, .int .i64 sh, .slice A l.length c] : Array Value)[i]?) ∧ (w.heap.size < w'.heap.size)) ∧ OutAt w w.heap.size #[.int .i64 n, .string id, .string tg, .string ac, .string sy, .int .i64 sd, .int .i64 q, .int .i64 p, .int .i64 al, .int .i64 st, .int .i64 en, .int .i64 rt, .int .i64 sh, .slice A l.length c] 24 s_.1 s_.2 [⟨35, kw⟩, ⟨11, id⟩] w') ?_ ?_
  rotate_left
  · intro hCont
    refine two_ (i := 2) (j := 8) (Ni := some 7) (Nj := some 3) #[true, true, true, false, true, true, true, false, false, false] #[true, true, false, false, true, true, true, false, true, false] rfl rfl rfl rfl (by kernel_rfl) (by decide) (by decide) (fun K hK => ?_) (fun K hK => ?_)
    · skip
      refine goes_ Tryz.func19 (by kernel_rfl) rfl #[.int .i64 n] (by rfl) rfl rfl (by simp only [List.map_toArray, List.map_cons, List.map_nil]; rfl) ?_
      with_reducible refine (HKd.out _).mono ?_
      rintro e w2 ⟨rfl, hd2⟩
      refine ⟨_, rfl, ?_⟩
      have HB2 := Aside0.mk hd2.below
      clear hd2
      refine hK.out _ _ ⟨(fun i => (HB2.out.cell (p := ⟨w.heap.size, i, none⟩) hHeld.2).trans (hHeld.1 i)), (Nat.lt_of_lt_of_le hHeld.2 HB2.out.size)⟩ (fun hHeld => ?_)
      clear hK K
      refine norm_ (a' := ?_) ?_ ?_
      rotate_left
      · show Act.put _ (some 7) _ = _
        simp only [Act.put, List.setIfInBounds_toArray, List.set_cons_zero, List.set_cons_succ, i64_w, i32_w]
        rfl
      refine pure_ (i := 3) (N := some 8) (v := ?_) (a' := ?_) #[true, true, true, true, true, true, true, false, false, false] rfl rfl (by kernel_rfl) (fun _ _ _ h => h) (Or.inl ⟨by rfl, ?_⟩) ?_ ?_
      rotate_left
      · intro w'
        go_simp
        with_reducible rfl
      rotate_left
      · simp only [Act.put, List.setIfInBounds_toArray, List.set_cons_zero, List.set_cons_succ, i64_w, i32_w]
        rfl
      refine two_ (i := 7) (j := 8) (Ni := some 12) (Nj := some 3) #[true, true, true, true, true, true, true, true, false, false] #[true, true, true, true, true, true, true, false, true, false] rfl rfl rfl rfl (by kernel_rfl) (by decide) (by decide) (fun K hK => ?_) (fun K hK => ?_)
      · skip
        refine value_ (w1 := ?_) (v := ?_) (by rfl) rfl ?_ ?_
        rotate_left 2
        · go_simp
          constructor
          · rfl
          · rfl
        refine hK.out _ _ ⟨(fun i => (((Below.refl _ _).alloc (Nat.le_refl _) _).cell (p := ⟨w.heap.size, i, none⟩) hHeld.2).trans (hHeld.1 i)), (Nat.lt_of_lt_of_eq (Nat.lt_succ_of_lt hHeld.2) (World.size_alloc _ _).symm)⟩ (fun hHeld => ?_)
        clear hK K
        refine norm_ (a' := ?_) ?_ ?_
        rotate_left
        · show Act.put _ (some 12) _ = _
          simp only [Act.put, List.setIfInBounds_toArray, List.set_cons_zero, List.set_cons_succ, i64_w, i32_w]
          rfl
        refine one_ (i := 8) (N := some 3) #[true, true, true, true, true, true, true, true, true, false] rfl rfl (by kernel_rfl) (by decide) (fun K hK => ?_)
        refine value_ (w1 := ?_) (v := ?_) (by rfl) rfl ?_ ?_
        rotate_left 2
        · go_simp
          constructor
          · rfl
          · rfl
        refine hK.out _ _ ⟨(fun i => (((Below.refl _ _).alloc (Nat.le_refl _) _).cell (p := ⟨w.heap.size, i, none⟩) hHeld.2).trans (hHeld.1 i)), (Nat.lt_of_lt_of_eq (Nat.lt_succ_of_lt hHeld.2) (World.size_alloc _ _).symm)⟩ (fun hHeld => ?_)
        clear hK K
        refine norm_ (a' := ?_) ?_ ?_
        rotate_left
        · show Act.put _ (some 3) _ = _
          simp only [Act.put, List.setIfInBounds_toArray, List.set_cons_zero, List.set_cons_succ, i64_w, i32_w]
          rfl
        exact norm_ (by simp only [putAll, Act.put, List.setIfInBounds_toArray, List.set_cons_zero, List.set_cons_succ]) (hCont (w2.heap.size + 1, w2.heap.size) _ ⟨hHeld, OutAt.mk1 (Nat.le_refl _) HX0.out HbL.out HLo.out ⟨HB2.out.os, HB2.out.tape, HB2.out.output, HB2.out.size, HB2.out.block⟩ _ _⟩)
      · skip
        refine value_ (w1 := ?_) (v := ?_) (by rfl) rfl ?_ ?_
        rotate_left 2
        · go_simp
          constructor
          · rfl
          · rfl
        refine hK.out _ _ ⟨(fun i => (((Below.refl _ _).alloc (Nat.le_refl _) _).cell (p := ⟨w.heap.size, i, none⟩) hHeld.2).trans (hHeld.1 i)), (Nat.lt_of_lt_of_eq (Nat.lt_succ_of_lt hHeld.2) (World.size_alloc _ _).symm)⟩ (fun hHeld => ?_)
        clear hK K
        refine norm_ (a' := ?_) ?_ ?_
        rotate_left
        · show Act.put _ (some 3) _ = _
          simp only [Act.put, List.setIfInBounds_toArray, List.set_cons_zero, List.set_cons_succ, i64_w, i32_w]
          rfl
        refine one_ (i := 7) (N := some 12) #[true, true, true, true, true, true, true, true, true, false] rfl rfl (by kernel_rfl) (by decide) (fun K hK => ?_)
        refine value_ (w1 := ?_) (v := ?_) (by rfl) rfl ?_ ?_
        rotate_left 2
        · go_simp
          constructor
          · rfl
          · rfl
        refine hK.out _ _ ⟨(fun i => (((Below.refl _ _).alloc (Nat.le_refl _) _).cell (p := ⟨w.heap.size, i, none⟩) hHeld.2).trans (hHeld.1 i)), (Nat.lt_of_lt_of_eq (Nat.lt_succ_of_lt hHeld.2) (World.size_alloc _ _).symm)⟩ (fun hHeld => ?_)
        clear hK K
        refine norm_ (a' := ?_) ?_ ?_
        rotate_left
        · show Act.put _ (some 12) _ = _
          simp only [Act.put, List.setIfInBounds_toArray, List.set_cons_zero, List.set_cons_succ, i64_w, i32_w]
          rfl
        exact norm_ (by simp only [putAll, Act.put, List.setIfInBounds_toArray, List.set_cons_zero, List.set_cons_succ]) (hCont (w2.heap.size, w2.heap.size + 1) _ ⟨hHeld, OutAt.mk2 (Nat.le_refl _) HX0.out HbL.out HLo.out ⟨HB2.out.os, HB2.out.tape, HB2.out.output, HB2.out.size, HB2.out.block⟩ _ _⟩)
    · skip
      refine value_ (w1 := ?_) (v := ?_) (by rfl) rfl ?_ ?_
      rotate_left 2
      · go_simp
        constructor
        · rfl
        · rfl
      refine hK.out _ _ ⟨(fun i => (((Below.refl _ _).alloc (Nat.le_refl _) _).cell (p := ⟨w.heap.size, i, none⟩) hHeld.2).trans (hHeld.1 i)), (Nat.lt_of_lt_of_eq (Nat.lt_succ_of_lt hHeld.2) (World.size_alloc _ _).symm)⟩ (fun hHeld => ?_)
      clear hK K
      refine norm_ (a' := ?_) ?_ ?_
      rotate_left
      · show Act.put _ (some 3) _ = _
        simp only [Act.put, List.setIfInBounds_toArray, List.set_cons_zero, List.set_cons_succ, i64_w, i32_w]
        rfl
      refine one_ (i := 2) (N := some 7) #[true, true, true, false, true, true, true, false, true, false] rfl rfl (by kernel_rfl) (by decide) (fun K hK => ?_)
      refine goes_ Tryz.func19 (by kernel_rfl) rfl #[.int .i64 n] (by rfl) rfl rfl (by simp only [List.map_toArray, List.map_cons, List.map_nil]; rfl) ?_
      with_reducible refine (HKd.out _).mono ?_
      rintro e w2 ⟨rfl, hd2⟩
      refine ⟨_, rfl, ?_⟩
      have HB2 := Aside0.mk hd2.below
      clear hd2
      refine hK.out _ _ ⟨(fun i => (HB2.out.cell (p := ⟨w.heap.size, i, none⟩) hHeld.2).trans (hHeld.1 i)), (Nat.lt_of_lt_of_le hHeld.2 HB2.out.size)⟩ (fun hHeld => ?_)
      clear hK K
      refine norm_ (a' := ?_) ?_ ?_
      rotate_left
      · show Act.put _ (some 7) _ = _
        simp only [Act.put, List.setIfInBounds_toArray, List.set_cons_zero, List.set_cons_succ, i64_w, i32_w]
        rfl
      refine pure_ (i := 3) (N := some 8) (v := ?_) (a' := ?_) #[true, true, true, true, true, true, true, false, true, false] rfl rfl (by kernel_rfl) (fun _ _ _ h => h) (Or.inl ⟨by rfl, ?_⟩) ?_ ?_
      rotate_left
      · intro w'
        go_simp
        with_reducible rfl
      rotate_left
      · simp only [Act.put, List.setIfInBounds_toArray, List.set_cons_zero, List.set_cons_succ, i64_w, i32_w]
        rfl
      refine one_ (i := 7) (N := some 12) #[true, true, true, true, true, true, true, true, true, false] rfl rfl (by kernel_rfl) (by decide) (fun K hK => ?_)
      refine value_ (w1 := ?_) (v := ?_) (by rfl) rfl ?_ ?_
      rotate_left 2
      · go_simp
        constructor
        · rfl
        · rfl
      refine hK.out _ _ ⟨(fun i => (((Below.refl _ _).alloc (Nat.le_refl _) _).cell (p := ⟨w.heap.size, i, none⟩) hHeld.2).trans (hHeld.1 i)), (Nat.lt_of_lt_of_eq (Nat.lt_succ_of_lt hHeld.2) (World.size_alloc _ _).symm)⟩ (fun hHeld => ?_)
      clear hK K
      refine norm_ (a' := ?_) ?_ ?_
      rotate_left
      · show Act.put _ (some 12) _ = _
        simp only [Act.put, List.setIfInBounds_toArray, List.set_cons_zero, List.set_cons_succ, i64_w, i32_w]
        rfl
      exact norm_ (by simp only [putAll, Act.put, List.setIfInBounds_toArray, List.set_cons_zero, List.set_cons_succ]) (hCont (w.heap.size + 1, w2.heap.size) _ ⟨hHeld, (by have q := OutAt.mk3 (Nat.le_refl _) HX0.out HbL.out HLo.out ⟨HB2.out.os, HB2.out.tape, HB2.out.output, HB2.out.size, HB2.out.block⟩ (⟨35, kw⟩ : S74) ⟨11, id⟩; rw [World.size_alloc] at q; exact q)⟩)
  rintro ⟨g, qb⟩ w4 ⟨hHeld, hO⟩
  have HO := Aside0.mk hO
  have c4 := blk_cell hO.gz 0
  have z4 := blk_frozen hO.gz 0
  clear hO
  refine norm_ (a' := ?_) ?_ ?_
  rotate_left
  · simp only [putAll, Act.put, List.setIfInBounds_toArray, List.set_cons_zero, List.set_cons_succ]
    rfl
  refine last_ (i := 9) (N := none) #[true, true, true, true, true, true, true, true, true, true] rfl rfl (by kernel_rfl) (by decide) (fun K hK => ?_)
  refine skip_ (w1 := ?_) (by rfl) rfl ?_ ?_
  rotate_left
  · go_simp
    rfl
  refine hK.out _ _ ?_
  clear hK K
  refine done_ (by kernel_rfl) ?_
  have H2 := Aside0.mk HO.out.fill
  have hc := fun i => blk_cell H2.out.box i
  go_wp2_with (first
        | (go_at_call 44; ((with_reducible refine (H2.out.put 1 (.iface 9 (.string ac)) ac (fun X _ => text_str ac X) (by simp)).mono ?_)); rintro en w13 ⟨rfl, h⟩; have H3 := Aside0.mk h; clear h hc; have hc := fun i => blk_cell H3.out.box i)
        | (go_at_call 44; ((with_reducible refine (H3.out.put 55 (.iface 9 (.string sy)) sy (fun X _ => text_str sy X) (by simp)).mono ?_)); rintro en w14 ⟨rfl, h⟩; have H4 := Aside0.mk h; clear h hc; have hc := fun i => blk_cell H4.out.box i)
        | (go_at_call 44; ((with_reducible refine (H4.out.put 54 (.iface 3 (.int .i64 sd)) (digitsB sd) (fun X hX => text_int sd X _ (HIt.out X sd hX (HR_sd.out))) (by simp)).mono ?_)); rintro en w15 ⟨rfl, h⟩; have H5 := Aside0.mk h; clear h hc; have hc := fun i => blk_cell H5.out.box i)
        | (go_at_call 44; ((with_reducible refine (H5.out.put 38 (.iface 3 (.int .i64 q)) (digitsB q) (fun X hX => text_int q X _ (HIt.out X q hX (HR_q.out))) (by simp)).mono ?_)); rintro en w16 ⟨rfl, h⟩; have H6 := Aside0.mk h; clear h hc; have hc := fun i => blk_cell H6.out.box i)
        | (go_at_call 44; ((with_reducible refine (H6.out.put 44 (.iface 3 (.int .i64 p)) (digitsB p) (fun X hX => text_int p X _ (HIt.out X p hX (HR_p.out))) (by simp)).mono ?_)); rintro en w17 ⟨rfl, h⟩; have H7 := Aside0.mk h; clear h hc; have hc := fun i => blk_cell H7.out.box i)
        | (go_at_call 44; ((with_reducible refine (H7.out.put 5001 (.iface 3 (.int .i64 al)) (digitsB al) (fun X hX => text_int al X _ (HIt.out X al hX (HR_al.out))) (by simp)).mono ?_)); rintro en w18 ⟨rfl, h⟩; have H8 := Aside0.mk h; clear h hc; have hc := fun i => blk_cell H8.out.box i)
        | (go_at_call 44; ((with_reducible refine (H8.out.put 5002 (.iface 3 (.int .i64 st)) (digitsB st) (fun X hX => text_int st X _ (HIt.out X st hX (HR_st.out))) (by simp)).mono ?_)); rintro en w19 ⟨rfl, h⟩; have H9 := Aside0.mk h; clear h hc; have hc := fun i => blk_cell H9.out.box i)
        | (go_at_call 44; ((with_reducible refine (H9.out.put 5003 (.iface 3 (.int .i64 en)) (digitsB en) (fun X hX => text_int en X _ (HIt.out X en hX (HR_en.out))) (by simp)).mono ?_)); rintro en w20 ⟨rfl, h⟩; have H10 := Aside0.mk h; clear h hc; have hc := fun i => blk_cell H10.out.box i)
        | (go_at_call 44; ((with_reducible refine (H10.out.put 5006 (.iface 22 (.slice A l.length c)) nb (fun X hX => text_ints A l.length c X _ (HNb.out X hX)) (by simp)).mono ?_)); rintro en w21 ⟨rfl, h⟩; have H11 := Aside0.mk h; clear h hc; have hc := fun i => blk_cell H11.out.box i; obtain ⟨A9, c9, hc9, hR9⟩ := H11.out.sheet.row; have HS9 := Aside0.mk hR9; clear hR9))
  go_ret
  exact FieldsTo.mk_ HS9.out rfl (H11.out.low.below (fun _ h => h) (Nat.le_refl _)) 
set_option maxRecDepth 100000 in
set_option maxHeartbeats 8000000 in
theorem fields_1_3 (w : World) (hT_ : Aside0 (Tabs_ w)) (n sd q p al st en rt sh : Int) (id tg ac sy kw nb : ByteArray) (A : Option Addr) (c : Nat) (l : List Int) (HKd : Aside0 (∀ X, Calls Tryz.prog 19 #[.int .i64 n] X fun e w' => e = .returned (.string kw) ∧ Drawn0 X w')) (t1 : (n == 1) = true) (t3 : (al == 2) = false) (t4 : (al == 3) = true) (hr_sd : 0 ≤ sd ∧ sd ≤ 9223372036854775807) (hr_q : 0 ≤ q ∧ q ≤ 9223372036854775807) (hr_p : 0 ≤ p ∧ p ≤ 9223372036854775807) (hr_al : 0 ≤ al ∧ al ≤ 9223372036854775807) (hr_st : 0 ≤ st ∧ st ≤ 9223372036854775807) (hr_en : 0 ≤ en ∧ en ≤ 9223372036854775807) (hr_rt : 0 ≤ rt ∧ rt ≤ 9223372036854775807) :
    Calls Tryz.prog 16 #[.agg #[.int .i64 n, .string id, .string tg, .string ac, .string sy, .int .i64 sd, .int .i64 q, .int .i64 p, .int .i64 al, .int .i64 st, .int .i64 en, .int .i64 rt, .int .i64 sh, .slice A l.length c]] w fun e w' => FieldsTo [⟨35, kw⟩, ⟨11, id⟩, ⟨1, ac⟩, ⟨55, sy⟩, ⟨54, digitsB sd⟩, ⟨38, digitsB q⟩, ⟨44, digitsB p⟩, ⟨5001, digitsB al⟩, ⟨5002, digitsB st⟩, ⟨5003, digitsB en⟩, ⟨5004, digitsB rt⟩] w e w' := by
  have HX0 := Aside0.mk (blk_new w (.cells #[.int .i64 n, .string id, .string tg, .string ac, .string sy, .int .i64 sd, .int .i64 q, .int .i64 p, .int .i64 al, .int .i64 st, .int .i64 en, .int .i64 rt, .int .i64 sh, .slice A l.length c] 24))
  have HbL : Aside0 (w.heap.size < (w.alloc (.cells #[.int .i64 n, .string id, .string tg, .string ac, .string sy, .int .i64 sd, .int .i64 q, .int .i64 p, .int .i64 al, .int .i64 st, .int .i64 en, .int .i64 rt, .int .i64 sh, .slice A l.length c] 24)).heap.size) := ⟨by rw [World.size_alloc]; omega⟩
  have HLo : Aside0 (Below w.heap.size w (w.alloc (.cells #[.int .i64 n, .string id, .string tg, .string ac, .string sy, .int .i64 sd, .int .i64 q, .int .i64 p, .int .i64 al, .int .i64 st, .int .i64 en, .int .i64 rt, .int .i64 sh, .slice A l.length c] 24))) := ⟨(Below.refl _ _).alloc (Nat.le_refl _) _⟩
  have HIt : Aside0 (∀ X x, Turned (fun k => w.heap.size ≤ k) w X → 0 ≤ x ∧ x ≤ 9223372036854775807 → Calls Tryz.prog 67 #[.int .i64 x] X fun e w' => e = .returned (.string (digitsB x)) ∧ Below X.heap.size X w') := ⟨fun X x hX hx => strconv_Itoa.calls x _ X ⟨hT_.out.below (hX.below (fun _ h => h) (Nat.le_refl _))⟩ (by unfold strconv_Itoa.f; rw [if_pos hx])⟩
  have HR_sd := Aside0.mk hr_sd
  have HR_q := Aside0.mk hr_q
  have HR_p := Aside0.mk hr_p
  have HR_al := Aside0.mk hr_al
  have HR_st := Aside0.mk hr_st
  have HR_en := Aside0.mk hr_en
  have HR_rt := Aside0.mk hr_rt
  clear hr_sd hr_q hr_p hr_al hr_st hr_en hr_rt
  have hmf : ∀ (fn : Fn) (first cap : Array Value) (w : World), (Instr.makeFunc fn first cap).run Tryz.prog w = .ok (.func fn first cap) w := fun _ _ _ _ => rfl
  have hcs : Tryz.prog.concrete 9 = true := by kernel_rfl
  have hci : Tryz.prog.concrete 3 = true := by kernel_rfl
  have hcl : Tryz.prog.concrete 22 = true := by kernel_rfl
  go_enter Tryz.func16, Tryz.ntmps16
  go_wp2
  refine start_ (n := 10) (S := fun w' => (∀ i, w'.cell? ⟨w.heap.size, i, none⟩ = (#[.int .i64 n, .string id, .string tg, .string ac, .string sy, .int .i64 sd, .int .i64 q, .int .i64 p, .int .i64 al, .int .i64 st, .int .i64 en, .int .i64 rt, .int .i64 sh, .slice A l.length c] : Array Value)[i]?) ∧ (w.heap.size < w'.heap.size)) (ds := [9]) #[false, false, false, false, false, false, false, false, false, false] (by kernel_rfl) rfl rfl ⟨(fun i => blk_cell HX0.out i), HbL.out⟩ (fun hHeld => ?_)
  refine pure_ (i := 0) (N := some 5) (v := ?_) (a' := ?_) #[true, false, false, false, false, false, false, false, false, false] rfl rfl (by kernel_rfl) (fun _ _ _ h => h) (Or.inl ⟨by rfl, ?_⟩) ?_ ?_
  rotate_left
  · intro w'
    go_simp
    with_reducible rfl
  rotate_left
  · simp only [Act.put, List.setIfInBounds_toArray, List.set_cons_zero, List.set_cons_succ, i64_w, i32_w]
    rfl
  refine pure_ (i := 4) (N := some 9) (v := ?_) (a' := ?_) #[true, false, false, false, true, false, false, false, false, false] rfl rfl (by kernel_rfl) (fun _ _ _ h => h) (Or.inl ⟨by rfl, ?_⟩) ?_ ?_
  rotate_left
  · intro w'
    go_simp
    with_reducible rfl
  rotate_left
  · simp only [Act.put, List.setIfInBounds_toArray, List.set_cons_zero, List.set_cons_succ, i64_w, i32_w]
    rfl
  refine take_ (i := 1) (N := some 6) (v := ?_) (a' := ?_) #[true, true, false, false, true, false, false, false, false, false] rfl rfl (by kernel_rfl) (fun _ _ _ h => h) (Or.inl ⟨by rfl, ?_⟩) hHeld ?_ ?_
  rotate_left
  · rintro w' ⟨s0, s1⟩
    go_simp
    with_reducible rfl
  rotate_left
  · simp only [Act.put, List.setIfInBounds_toArray, List.set_cons_zero, List.set_cons_succ, i64_w, i32_w]
    rfl
  refine take_ (i := 5) (N := some 10) (v := ?_) (a' := ?_) #[true, true, false, false, true, true, false, false, false, false] rfl rfl (by kernel_rfl) (fun _ _ _ h => h) (Or.inl ⟨by rfl, ?_⟩) hHeld ?_ ?_
  rotate_left
  · rintro w' ⟨s0, s1⟩
    go_simp
    with_reducible rfl
  rotate_left
  · simp only [Act.put, List.setIfInBounds_toArray, List.set_cons_zero, List.set_cons_succ, i64_w, i32_w]
    rfl
  refine pure_ (i := 6) (N := some 11) (v := ?_) (a' := ?_) #[true, true, false, false, true, true, true, false, false, false] rfl rfl (by kernel_rfl) (fun _ _ _ h => h) (Or.inl ⟨by rfl, ?_⟩) ?_ ?_
  rotate_left
  · intro w'
    go_simp
    with_reducible rfl
  rotate_left
  · simp only [Act.put, List.setIfInBounds_toArray, List.set_cons_zero, List.set_cons_succ, i64_w, i32_w]
    rfl
  refine join_ (σ := Nat × Nat) 1 #[true, true, true, true, true, true, true, true, true, false] (fun s_ => [(7, .string kw), (12, .slice (some ⟨s_.2, 0, none⟩) 2 2), (3, .pointer (some ⟨s_.1, 0, none⟩)), (8, .agg #[.int .i64 35, .string kw])]) (fun s_ w' => ((∀ i, w'.cell? ⟨w.heap.size, i, none⟩ = (#[.int .i64 n, .string id, .string tg, .string ac, .string sy, .int .i64 sd, .int .i64 q, .int .i64 p, .int .i64 al, .int .i64 st, .int .i64 en, .int .i64 rt, .int .i64 sh, .slice A l.length c] : Array Value)[i]?) ∧ (w.heap.size < w'.heap.size)) ∧ OutAt w w.heap.size #[.int .i64 n, .string id, .string tg, .string ac, .string sy, .int .i64 sd, .int .i64 q, .int .i64 p, .int .i64 al, .int .i64 st, .int .i64 en, .int .i64 rt, .int .i64 sh, .slice A l.length c] 24 s_.1 s_.2 [⟨35, kw⟩, ⟨11, id⟩] w') ?_ ?_
  rotate_left
  · intro hCont
    refine two_ (i := 2) (j := 8) (Ni := some 7) (Nj := some 3) #[true, true, true, false, true, true, true, false, false, false] #[true, true, false, false, true, true, true, false, true, false] rfl rfl rfl rfl (by kernel_rfl) (by decide) (by decide) (fun K hK => ?_) (fun K hK => ?_)
    · skip
      refine goes_ Tryz.func19 (by kernel_rfl) rfl #[.int .i64 n] (by rfl) rfl rfl (by simp only [List.map_toArray, List.map_cons, List.map_nil]; rfl) ?_
      with_reducible refine (HKd.out _).mono ?_
      rintro e w2 ⟨rfl, hd2⟩
      refine ⟨_, rfl, ?_⟩
      have HB2 := Aside0.mk hd2.below
      clear hd2
      refine hK.out _ _ ⟨(fun i => (HB2.out.cell (p := ⟨w.heap.size, i, none⟩) hHeld.2).trans (hHeld.1 i)), (Nat.lt_of_lt_of_le hHeld.2 HB2.out.size)⟩ (fun hHeld => ?_)
      clear hK K
      refine norm_ (a' := ?_) ?_ ?_
      rotate_left
      · show Act.put _ (some 7) _ = _
        simp only [Act.put, List.setIfInBounds_toArray, List.set_cons_zero, List.set_cons_succ, i64_w, i32_w]
        rfl
      refine pure_ (i := 3) (N := some 8) (v := ?_) (a' := ?_) #[true, true, true, true, true, true, true, false, false, false] rfl rfl (by kernel_rfl) (fun _ _ _ h => h) (Or.inl ⟨by rfl, ?_⟩) ?_ ?_
      rotate_left
      · intro w'
        go_simp
        with_reducible rfl
      rotate_left
      · simp only [Act.put, List.setIfInBounds_toArray, List.set_cons_zero, List.set_cons_succ, i64_w, i32_w]
        rfl
      refine two_ (i := 7) (j := 8) (Ni := some 12) (Nj := some 3) #[true, true, true, true, true, true, true, true, false, false] #[true, true, true, true, true, true, true, false, true, false] rfl rfl rfl rfl (by kernel_rfl) (by decide) (by decide) (fun K hK => ?_) (fun K hK => ?_)
      · skip
        refine value_ (w1 := ?_) (v := ?_) (by rfl) rfl ?_ ?_
        rotate_left 2
        · go_simp
          constructor
          · rfl
          · rfl
        refine hK.out _ _ ⟨(fun i => (((Below.refl _ _).alloc (Nat.le_refl _) _).cell (p := ⟨w.heap.size, i, none⟩) hHeld.2).trans (hHeld.1 i)), (Nat.lt_of_lt_of_eq (Nat.lt_succ_of_lt hHeld.2) (World.size_alloc _ _).symm)⟩ (fun hHeld => ?_)
        clear hK K
        refine norm_ (a' := ?_) ?_ ?_
        rotate_left
        · show Act.put _ (some 12) _ = _
          simp only [Act.put, List.setIfInBounds_toArray, List.set_cons_zero, List.set_cons_succ, i64_w, i32_w]
          rfl
        refine one_ (i := 8) (N := some 3) #[true, true, true, true, true, true, true, true, true, false] rfl rfl (by kernel_rfl) (by decide) (fun K hK => ?_)
        refine value_ (w1 := ?_) (v := ?_) (by rfl) rfl ?_ ?_
        rotate_left 2
        · go_simp
          constructor
          · rfl
          · rfl
        refine hK.out _ _ ⟨(fun i => (((Below.refl _ _).alloc (Nat.le_refl _) _).cell (p := ⟨w.heap.size, i, none⟩) hHeld.2).trans (hHeld.1 i)), (Nat.lt_of_lt_of_eq (Nat.lt_succ_of_lt hHeld.2) (World.size_alloc _ _).symm)⟩ (fun hHeld => ?_)
        clear hK K
        refine norm_ (a' := ?_) ?_ ?_
        rotate_left
        · show Act.put _ (some 3) _ = _
          simp only [Act.put, List.setIfInBounds_toArray, List.set_cons_zero, List.set_cons_succ, i64_w, i32_w]
          rfl
        exact norm_ (by simp only [putAll, Act.put, List.setIfInBounds_toArray, List.set_cons_zero, List.set_cons_succ]) (hCont (w2.heap.size + 1, w2.heap.size) _ ⟨hHeld, OutAt.mk1 (Nat.le_refl _) HX0.out HbL.out HLo.out ⟨HB2.out.os, HB2.out.tape, HB2.out.output, HB2.out.size, HB2.out.block⟩ _ _⟩)
      · skip
        refine value_ (w1 := ?_) (v := ?_) (by rfl) rfl ?_ ?_
        rotate_left 2
        · go_simp
          constructor
          · rfl
          · rfl
        refine hK.out _ _ ⟨(fun i => (((Below.refl _ _).alloc (Nat.le_refl _) _).cell (p := ⟨w.heap.size, i, none⟩) hHeld.2).trans (hHeld.1 i)), (Nat.lt_of_lt_of_eq (Nat.lt_succ_of_lt hHeld.2) (World.size_alloc _ _).symm)⟩ (fun hHeld => ?_)
        clear hK K
        refine norm_ (a' := ?_) ?_ ?_
        rotate_left
        · show Act.put _ (some 3) _ = _
          simp only [Act.put, List.setIfInBounds_toArray, List.set_cons_zero, List.set_cons_succ, i64_w, i32_w]
          rfl
        refine one_ (i := 7) (N := some 12) #[true, true, true, true, true, true, true, true, true, false] rfl rfl (by kernel_rfl) (by decide) (fun K hK => ?_)
        refine value_ (w1 := ?_) (v := ?_) (by rfl) rfl ?_ ?_
        rotate_left 2
        · go_simp
          constructor
          · rfl
          · rfl
        refine hK.out _ _ ⟨(fun i => (((Below.refl _ _).alloc (Nat.le_refl _) _).cell (p := ⟨w.heap.size, i, none⟩) hHeld.2).trans (hHeld.1 i)), (Nat.lt_of_lt_of_eq (Nat.lt_succ_of_lt hHeld.2) (World.size_alloc _ _).symm)⟩ (fun hHeld => ?_)
        clear hK K
        refine norm_ (a' := ?_) ?_ ?_
        rotate_left
        · show Act.put _ (some 12) _ = _
          simp only [Act.put, List.setIfInBounds_toArray, List.set_cons_zero, List.set_cons_succ, i64_w, i32_w]
          rfl
        exact norm_ (by simp only [putAll, Act.put, List.setIfInBounds_toArray, List.set_cons_zero, List.set_cons_succ]) (hCont (w2.heap.size, w2.heap.size + 1) _ ⟨hHeld, OutAt.mk2 (Nat.le_refl _) HX0.out HbL.out HLo.out ⟨HB2.out.os, HB2.out.tape, HB2.out.output, HB2.out.size, HB2.out.block⟩ _ _⟩)
    · skip
      refine value_ (w1 := ?_) (v := ?_) (by rfl) rfl ?_ ?_
      rotate_left 2
      · go_simp
        constructor
        · rfl
        · rfl
      refine hK.out _ _ ⟨(fun i => (((Below.refl _ _).alloc (Nat.le_refl _) _).cell (p := ⟨w.heap.size, i, none⟩) hHeld.2).trans (hHeld.1 i)), (Nat.lt_of_lt_of_eq (Nat.lt_succ_of_lt hHeld.2) (World.size_alloc _ _).symm)⟩ (fun hHeld => ?_)
      clear hK K
      refine norm_ (a' := ?_) ?_ ?_
      rotate_left
      · show Act.put _ (some 3) _ = _
        simp only [Act.put, List.setIfInBounds_toArray, List.set_cons_zero, List.set_cons_succ, i64_w, i32_w]
        rfl
      refine one_ (i := 2) (N := some 7) #[true, true, true, false, true, true, true, false, true, false] rfl rfl (by kernel_rfl) (by decide) (fun K hK => ?_)
      refine goes_ Tryz.func19 (by kernel_rfl) rfl #[.int .i64 n] (by rfl) rfl rfl (by simp only [List.map_toArray, List.map_cons, List.map_nil]; rfl) ?_
      with_reducible refine (HKd.out _).mono ?_
      rintro e w2 ⟨rfl, hd2⟩
      refine ⟨_, rfl, ?_⟩
      have HB2 := Aside0.mk hd2.below
      clear hd2
      refine hK.out _ _ ⟨(fun i => (HB2.out.cell (p := ⟨w.heap.size, i, none⟩) hHeld.2).trans (hHeld.1 i)), (Nat.lt_of_lt_of_le hHeld.2 HB2.out.size)⟩ (fun hHeld => ?_)
      clear hK K
      refine norm_ (a' := ?_) ?_ ?_
      rotate_left
      · show Act.put _ (some 7) _ = _
        simp only [Act.put, List.setIfInBounds_toArray, List.set_cons_zero, List.set_cons_succ, i64_w, i32_w]
        rfl
      refine pure_ (i := 3) (N := some 8) (v := ?_) (a' := ?_) #[true, true, true, true, true, true, true, false, true, false] rfl rfl (by kernel_rfl) (fun _ _ _ h => h) (Or.inl ⟨by rfl, ?_⟩) ?_ ?_
      rotate_left
      · intro w'
        go_simp
        with_reducible rfl
      rotate_left
      · simp only [Act.put, List.setIfInBounds_toArray, List.set_cons_zero, List.set_cons_succ, i64_w, i32_w]
        rfl
      refine one_ (i := 7) (N := some 12) #[true, true, true, true, true, true, true, true, true, false] rfl rfl (by kernel_rfl) (by decide) (fun K hK => ?_)
      refine value_ (w1 := ?_) (v := ?_) (by rfl) rfl ?_ ?_
      rotate_left 2
      · go_simp
        constructor
        · rfl
        · rfl
      refine hK.out _ _ ⟨(fun i => (((Below.refl _ _).alloc (Nat.le_refl _) _).cell (p := ⟨w.heap.size, i, none⟩) hHeld.2).trans (hHeld.1 i)), (Nat.lt_of_lt_of_eq (Nat.lt_succ_of_lt hHeld.2) (World.size_alloc _ _).symm)⟩ (fun hHeld => ?_)
      clear hK K
      refine norm_ (a' := ?_) ?_ ?_
      rotate_left
      · show Act.put _ (some 12) _ = _
        simp only [Act.put, List.setIfInBounds_toArray, List.set_cons_zero, List.set_cons_succ, i64_w, i32_w]
        rfl
      exact norm_ (by simp only [putAll, Act.put, List.setIfInBounds_toArray, List.set_cons_zero, List.set_cons_succ]) (hCont (w.heap.size + 1, w2.heap.size) _ ⟨hHeld, (by have q := OutAt.mk3 (Nat.le_refl _) HX0.out HbL.out HLo.out ⟨HB2.out.os, HB2.out.tape, HB2.out.output, HB2.out.size, HB2.out.block⟩ (⟨35, kw⟩ : S74) ⟨11, id⟩; rw [World.size_alloc] at q; exact q)⟩)
  rintro ⟨g, qb⟩ w4 ⟨hHeld, hO⟩
  have HO := Aside0.mk hO
  have c4 := blk_cell hO.gz 0
  have z4 := blk_frozen hO.gz 0
  clear hO
  refine norm_ (a' := ?_) ?_ ?_
  rotate_left
  · simp only [putAll, Act.put, List.setIfInBounds_toArray, List.set_cons_zero, List.set_cons_succ]
    rfl
  refine last_ (i := 9) (N := none) #[true, true, true, true, true, true, true, true, true, true] rfl rfl (by kernel_rfl) (by decide) (fun K hK => ?_)
  refine skip_ (w1 := ?_) (by rfl) rfl ?_ ?_
  rotate_left
  · go_simp
    rfl
  refine hK.out _ _ ?_
  clear hK K
  refine done_ (by kernel_rfl) ?_
  have H2 := Aside0.mk HO.out.fill
  have hc := fun i => blk_cell H2.out.box i
  go_wp2_with (first
        | (go_at_call 44; ((with_reducible refine (H2.out.put 1 (.iface 9 (.string ac)) ac (fun X _ => text_str ac X) (by simp)).mono ?_)); rintro en w13 ⟨rfl, h⟩; have H3 := Aside0.mk h; clear h hc; have hc := fun i => blk_cell H3.out.box i)
        | (go_at_call 44; ((with_reducible refine (H3.out.put 55 (.iface 9 (.string sy)) sy (fun X _ => text_str sy X) (by simp)).mono ?_)); rintro en w14 ⟨rfl, h⟩; have H4 := Aside0.mk h; clear h hc; have hc := fun i => blk_cell H4.out.box i)
        | (go_at_call 44; ((with_reducible refine (H4.out.put 54 (.iface 3 (.int .i64 sd)) (digitsB sd) (fun X hX => text_int sd X _ (HIt.out X sd hX (HR_sd.out))) (by simp)).mono ?_)); rintro en w15 ⟨rfl, h⟩; have H5 := Aside0.mk h; clear h hc; have hc := fun i => blk_cell H5.out.box i)
        | (go_at_call 44; ((with_reducible refine (H5.out.put 38 (.iface 3 (.int .i64 q)) (digitsB q) (fun X hX => text_int q X _ (HIt.out X q hX (HR_q.out))) (by simp)).mono ?_)); rintro en w16 ⟨rfl, h⟩; have H6 := Aside0.mk h; clear h hc; have hc := fun i => blk_cell H6.out.box i)
        | (go_at_call 44; ((with_reducible refine (H6.out.put 44 (.iface 3 (.int .i64 p)) (digitsB p) (fun X hX => text_int p X _ (HIt.out X p hX (HR_p.out))) (by simp)).mono ?_)); rintro en w17 ⟨rfl, h⟩; have H7 := Aside0.mk h; clear h hc; have hc := fun i => blk_cell H7.out.box i)
        | (go_at_call 44; ((with_reducible refine (H7.out.put 5001 (.iface 3 (.int .i64 al)) (digitsB al) (fun X hX => text_int al X _ (HIt.out X al hX (HR_al.out))) (by simp)).mono ?_)); rintro en w18 ⟨rfl, h⟩; have H8 := Aside0.mk h; clear h hc; have hc := fun i => blk_cell H8.out.box i)
        | (go_at_call 44; ((with_reducible refine (H8.out.put 5002 (.iface 3 (.int .i64 st)) (digitsB st) (fun X hX => text_int st X _ (HIt.out X st hX (HR_st.out))) (by simp)).mono ?_)); rintro en w19 ⟨rfl, h⟩; have H9 := Aside0.mk h; clear h hc; have hc := fun i => blk_cell H9.out.box i)
        | (go_at_call 44; ((with_reducible refine (H9.out.put 5003 (.iface 3 (.int .i64 en)) (digitsB en) (fun X hX => text_int en X _ (HIt.out X en hX (HR_en.out))) (by simp)).mono ?_)); rintro en w20 ⟨rfl, h⟩; have H10 := Aside0.mk h; clear h hc; have hc := fun i => blk_cell H10.out.box i)
        | (go_at_call 44; ((with_reducible refine (H10.out.put 5004 (.iface 3 (.int .i64 rt)) (digitsB rt) (fun X hX => text_int rt X _ (HIt.out X rt hX (HR_rt.out))) (by simp)).mono ?_)); rintro en w21 ⟨rfl, h⟩; have H11 := Aside0.mk h; clear h hc; have hc := fun i => blk_cell H11.out.box i; obtain ⟨A9, c9, hc9, hR9⟩ := H11.out.sheet.row; have HS9 := Aside0.mk hR9; clear hR9))
  go_ret
  exact FieldsTo.mk_ HS9.out rfl (H11.out.low.below (fun _ h => h) (Nat.le_refl _)) 
set_option maxRecDepth 100000 in
set_option maxHeartbeats 8000000 in
theorem fields_1_4 (w : World) (hT_ : Aside0 (Tabs_ w)) (n sd q p al st en rt sh : Int) (id tg ac sy kw nb : ByteArray) (A : Option Addr) (c : Nat) (l : List Int) (HKd : Aside0 (∀ X, Calls Tryz.prog 19 #[.int .i64 n] X fun e w' => e = .returned (.string kw) ∧ Drawn0 X w')) (t1 : (n == 1) = true) (t3 : (al == 2) = false) (t4 : (al == 3) = false) (t5 : (al == 4) = true) (hr_sd : 0 ≤ sd ∧ sd ≤ 9223372036854775807) (hr_q : 0 ≤ q ∧ q ≤ 9223372036854775807) (hr_p : 0 ≤ p ∧ p ≤ 9223372036854775807) (hr_al : 0 ≤ al ∧ al ≤ 9223372036854775807) (hr_st : 0 ≤ st ∧ st ≤ 9223372036854775807) (hr_en : 0 ≤ en ∧ en ≤ 9223372036854775807) (hr_sh : 0 ≤ sh ∧ sh ≤ 9223372036854775807) :
    Calls Tryz.prog 16 #[.agg #[.int .i64 n, .string id, .string tg, .string ac, .string sy, .int .i64 sd, .int .i64 q, .int .i64 p, .int .i64 al, .int .i64 st, .int .i64 en, .int .i64 rt, .int .i64 sh, .slice A l.length c]] w fun e w' => FieldsTo [⟨35, kw⟩, ⟨11, id⟩, ⟨1, ac⟩, ⟨55, sy⟩, ⟨54, digitsB sd⟩, ⟨38, digitsB q⟩, ⟨44, digitsB p⟩, ⟨5001, digitsB al⟩, ⟨5002, digitsB st⟩, ⟨5003, digitsB en⟩, ⟨5005, digitsB sh⟩] w e w' := by
  have HX0 := Aside0.mk (blk_new w (.cells #[.int .i64 n, .string id, .string tg, .string ac, .string sy, .int .i64 sd, .int .i64 q, .int .i64 p, .int .i64 al, .int .i64 st, .int .i64 en, .int .i64 rt, .int .i64 sh, .slice A l.length c] 24))
  have HbL : Aside0 (w.heap.size < (w.alloc (.cells #[.int .i64 n, .string id, .string tg, .string ac, .string sy, .int .i64 sd, .int .i64 q, .int .i64 p, .int .i64 al, .int .i64 st, .int .i64 en, .int .i64 rt, .int .i64 sh, .slice A l.length c] 24)).heap.size) := ⟨by rw [World.size_alloc]; omega⟩
  have HLo : Aside0 (Below w.heap.size w (w.alloc (.cells #[.int .i64 n, .string id, .string tg, .string ac, .string sy, .int .i64 sd, .int .i64 q, .int .i64 p, .int .i64 al, .int .i64 st, .int .i64 en, .int .i64 rt, .int .i64 sh, .slice A l.length c] 24))) := ⟨(Below.refl _ _).alloc (Nat.le_refl _) _⟩
  have HIt : Aside0 (∀ X x, Turned (fun k => w.heap.size ≤ k) w X → 0 ≤ x ∧ x ≤ 9223372036854775807 → Calls Tryz.prog 67 #[.int .i64 x] X fun e w' => e = .returned (.string (digitsB x)) ∧ Below X.heap.size X w') := ⟨fun X x hX hx => strconv_Itoa.calls x _ X ⟨hT_.out.below (hX.below (fun _ h => h) (Nat.le_refl _))⟩ (by unfold strconv_Itoa.f; rw [if_pos hx])⟩
  have HR_sd := Aside0.mk hr_sd
  have HR_q := Aside0.mk hr_q
  have HR_p := Aside0.mk hr_p
  have HR_al := Aside0.mk hr_al
  have HR_st := Aside0.mk hr_st
  have HR_en := Aside0.mk hr_en
  have HR_sh := Aside0.mk hr_sh
  clear hr_sd hr_q hr_p hr_al hr_st hr_en hr_sh
  have hmf : ∀ (fn : Fn) (first cap : Array Value) (w : World), (Instr.makeFunc fn first cap).run Tryz.prog w = .ok (.func fn first cap) w := fun _ _ _ _ => rfl
  have hcs : Tryz.prog.concrete 9 = true := by kernel_rfl
  have hci : Tryz.prog.concrete 3 = true := by kernel_rfl
  have hcl : Tryz.prog.concrete 22 = true := by kernel_rfl
  go_enter Tryz.func16, Tryz.ntmps16
  go_wp2
  refine start_ (n := 10) (S := fun w' => (∀ i, w'.cell? ⟨w.heap.size, i, none⟩ = (#[.int .i64 n, .string id, .string tg, .string ac, .string sy, .int .i64 sd, .int .i64 q, .int .i64 p, .int .i64 al, .int .i64 st, .int .i64 en, .int .i64 rt, .int .i64 sh, .slice A l.length c] : Array Value)[i]?) ∧ (w.heap.size < w'.heap.size)) (ds := [9]) #[false, false, false, false, false, false, false, false, false, false] (by kernel_rfl) rfl rfl ⟨(fun i => blk_cell HX0.out i), HbL.out⟩ (fun hHeld => ?_)
  refine pure_ (i := 0) (N := some 5) (v := ?_) (a' := ?_) #[true, false, false, false, false, false, false, false, false, false] rfl rfl (by kernel_rfl) (fun _ _ _ h => h) (Or.inl ⟨by rfl, ?_⟩) ?_ ?_
  rotate_left
  · intro w'
    go_simp
    with_reducible rfl
  rotate_left
  · simp only [Act.put, List.setIfInBounds_toArray, List.set_cons_zero, List.set_cons_succ, i64_w, i32_w]
    rfl
  refine pure_ (i := 4) (N := some 9) (v := ?_) (a' := ?_) #[true, false, false, false, true, false, false, false, false, false] rfl rfl (by kernel_rfl) (fun _ _ _ h => h) (Or.inl ⟨by rfl, ?_⟩) ?_ ?_
  rotate_left
  · intro w'
    go_simp
    with_reducible rfl
  rotate_left
  · simp only [Act.put, List.setIfInBounds_toArray, List.set_cons_zero, List.set_cons_succ, i64_w, i32_w]
    rfl
  refine take_ (i := 1) (N := some 6) (v := ?_) (a' := ?_) #[true, true, false, false, true, false, false, false, false, false] rfl rfl (by kernel_rfl) (fun _ _ _ h => h) (Or.inl ⟨by rfl, ?_⟩) hHeld ?_ ?_
  rotate_left
  · rintro w' ⟨s0, s1⟩
    go_simp
    with_reducible rfl
  rotate_left
  · simp only [Act.put, List.setIfInBounds_toArray, List.set_cons_zero, List.set_cons_succ, i64_w, i32_w]
    rfl
  refine take_ (i := 5) (N := some 10) (v := ?_) (a' := ?_) #[true, true, false, false, true, true, false, false, false, false] rfl rfl (by kernel_rfl) (fun _ _ _ h => h) (Or.inl ⟨by rfl, ?_⟩) hHeld ?_ ?_
  rotate_left
  · rintro w' ⟨s0, s1⟩
    go_simp
    with_reducible rfl
  rotate_left
  · simp only [Act.put, List.setIfInBounds_toArray, List.set_cons_zero, List.set_cons_succ, i64_w, i32_w]
    rfl
  refine pure_ (i := 6) (N := some 11) (v := ?_) (a' := ?_) #[true, true, false, false, true, true, true, false, false, false] rfl rfl (by kernel_rfl) (fun _ _ _ h => h) (Or.inl ⟨by rfl, ?_⟩) ?_ ?_
  rotate_left
  · intro w'
    go_simp
    with_reducible rfl
  rotate_left
  · simp only [Act.put, List.setIfInBounds_toArray, List.set_cons_zero, List.set_cons_succ, i64_w, i32_w]
    rfl
  refine join_ (σ := Nat × Nat) 1 #[true, true, true, true, true, true, true, true, true, false] (fun s_ => [(7, .string kw), (12, .slice (some ⟨s_.2, 0, none⟩) 2 2), (3, .pointer (some ⟨s_.1, 0, none⟩)), (8, .agg #[.int .i64 35, .string kw])]) (fun s_ w' => ((∀ i, w'.cell? ⟨w.heap.size, i, none⟩ = (#[.int .i64 n, .string id, .string tg, .string ac, .string sy, .int .i64 sd, .int .i64 q, .int .i64 p, .int .i64 al, .int .i64 st, .int .i64 en, .int .i64 rt, .int .i64 sh, .slice A l.length c] : Array Value)[i]?) ∧ (w.heap.size < w'.heap.size)) ∧ OutAt w w.heap.size #[.int .i64 n, .string id, .string tg, .string ac, .string sy, .int .i64 sd, .int .i64 q, .int .i64 p, .int .i64 al, .int .i64 st, .int .i64 en, .int .i64 rt, .int .i64 sh, .slice A l.length c] 24 s_.1 s_.2 [⟨35, kw⟩, ⟨11, id⟩] w') ?_ ?_
  rotate_left
  · intro hCont
    refine two_ (i := 2) (j := 8) (Ni := some 7) (Nj := some 3) #[true, true, true, false, true, true, true, false, false, false] #[true, true, false, false, true, true, true, false, true, false] rfl rfl rfl rfl (by kernel_rfl) (by decide) (by decide) (fun K hK => ?_) (fun K hK => ?_)
    · skip
      refine goes_ Tryz.func19 (by kernel_rfl) rfl #[.int .i64 n] (by rfl) rfl rfl (by simp only [List.map_toArray, List.map_cons, List.map_nil]; rfl) ?_
      with_reducible refine (HKd.out _).mono ?_
      rintro e w2 ⟨rfl, hd2⟩
      refine ⟨_, rfl, ?_⟩
      have HB2 := Aside0.mk hd2.below
      clear hd2
      refine hK.out _ _ ⟨(fun i => (HB2.out.cell (p := ⟨w.heap.size, i, none⟩) hHeld.2).trans (hHeld.1 i)), (Nat.lt_of_lt_of_le hHeld.2 HB2.out.size)⟩ (fun hHeld => ?_)
      clear hK K
      refine norm_ (a' := ?_) ?_ ?_
      rotate_left
      · show Act.put _ (some 7) _ = _
        simp only [Act.put, List.setIfInBounds_toArray, List.set_cons_zero, List.set_cons_succ, i64_w, i32_w]
        rfl
      refine pure_ (i := 3) (N := some 8) (v := ?_) (a' := ?_) #[true, true, true, true, true, true, true, false, false, false] rfl rfl (by kernel_rfl) (fun _ _ _ h => h) (Or.inl ⟨by rfl, ?_⟩) ?_ ?_
      rotate_left
      · intro w'
        go_simp
        with_reducible rfl
      rotate_left
      · simp only [Act.put, List.setIfInBounds_toArray, List.set_cons_zero, List.set_cons_succ, i64_w, i32_w]
        rfl
      refine two_ (i := 7) (j := 8) (Ni := some 12) (Nj := some 3) #[true, true, true, true, true, true, true, true, false, false] #[true, true, true, true, true, true, true, false, true, false] rfl rfl rfl rfl (by kernel_rfl) (by decide) (by decide) (fun K hK => ?_) (fun K hK => ?_)
      · skip
        refine value_ (w1 := ?_) (v := ?_) (by rfl) rfl ?_ ?_
        rotate_left 2
        · go_simp
          constructor
          · rfl
          · rfl
        refine hK.out _ _ ⟨(fun i => (((Below.refl _ _).alloc (Nat.le_refl _) _).cell (p := ⟨w.heap.size, i, none⟩) hHeld.2).trans (hHeld.1 i)), (Nat.lt_of_lt_of_eq (Nat.lt_succ_of_lt hHeld.2) (World.size_alloc _ _).symm)⟩ (fun hHeld => ?_)
        clear hK K
        refine norm_ (a' := ?_) ?_ ?_
        rotate_left
        · show Act.put _ (some 12) _ = _
          simp only [Act.put, List.setIfInBounds_toArray, List.set_cons_zero, List.set_cons_succ, i64_w, i32_w]
          rfl
        refine one_ (i := 8) (N := some 3) #[true, true, true, true, true, true, true, true, true, false] rfl rfl (by kernel_rfl) (by decide) (fun K hK => ?_)
        refine value_ (w1 := ?_) (v := ?_) (by rfl) rfl ?_ ?_
        rotate_left 2
        · go_simp
          constructor
          · rfl
          · rfl
        refine hK.out _ _ ⟨(fun i => (((Below.refl _ _).alloc (Nat.le_refl _) _).cell (p := ⟨w.heap.size, i, none⟩) hHeld.2).trans (hHeld.1 i)), (Nat.lt_of_lt_of_eq (Nat.lt_succ_of_lt hHeld.2) (World.size_alloc _ _).symm)⟩ (fun hHeld => ?_)
        clear hK K
        refine norm_ (a' := ?_) ?_ ?_
        rotate_left
        · show Act.put _ (some 3) _ = _
          simp only [Act.put, List.setIfInBounds_toArray, List.set_cons_zero, List.set_cons_succ, i64_w, i32_w]
          rfl
        exact norm_ (by simp only [putAll, Act.put, List.setIfInBounds_toArray, List.set_cons_zero, List.set_cons_succ]) (hCont (w2.heap.size + 1, w2.heap.size) _ ⟨hHeld, OutAt.mk1 (Nat.le_refl _) HX0.out HbL.out HLo.out ⟨HB2.out.os, HB2.out.tape, HB2.out.output, HB2.out.size, HB2.out.block⟩ _ _⟩)
      · skip
        refine value_ (w1 := ?_) (v := ?_) (by rfl) rfl ?_ ?_
        rotate_left 2
        · go_simp
          constructor
          · rfl
          · rfl
        refine hK.out _ _ ⟨(fun i => (((Below.refl _ _).alloc (Nat.le_refl _) _).cell (p := ⟨w.heap.size, i, none⟩) hHeld.2).trans (hHeld.1 i)), (Nat.lt_of_lt_of_eq (Nat.lt_succ_of_lt hHeld.2) (World.size_alloc _ _).symm)⟩ (fun hHeld => ?_)
        clear hK K
        refine norm_ (a' := ?_) ?_ ?_
        rotate_left
        · show Act.put _ (some 3) _ = _
          simp only [Act.put, List.setIfInBounds_toArray, List.set_cons_zero, List.set_cons_succ, i64_w, i32_w]
          rfl
        refine one_ (i := 7) (N := some 12) #[true, true, true, true, true, true, true, true, true, false] rfl rfl (by kernel_rfl) (by decide) (fun K hK => ?_)
        refine value_ (w1 := ?_) (v := ?_) (by rfl) rfl ?_ ?_
        rotate_left 2
        · go_simp
          constructor
          · rfl
          · rfl
        refine hK.out _ _ ⟨(fun i => (((Below.refl _ _).alloc (Nat.le_refl _) _).cell (p := ⟨w.heap.size, i, none⟩) hHeld.2).trans (hHeld.1 i)), (Nat.lt_of_lt_of_eq (Nat.lt_succ_of_lt hHeld.2) (World.size_alloc _ _).symm)⟩ (fun hHeld => ?_)
        clear hK K
        refine norm_ (a' := ?_) ?_ ?_
        rotate_left
        · show Act.put _ (some 12) _ = _
          simp only [Act.put, List.setIfInBounds_toArray, List.set_cons_zero, List.set_cons_succ, i64_w, i32_w]
          rfl
        exact norm_ (by simp only [putAll, Act.put, List.setIfInBounds_toArray, List.set_cons_zero, List.set_cons_succ]) (hCont (w2.heap.size, w2.heap.size + 1) _ ⟨hHeld, OutAt.mk2 (Nat.le_refl _) HX0.out HbL.out HLo.out ⟨HB2.out.os, HB2.out.tape, HB2.out.output, HB2.out.size, HB2.out.block⟩ _ _⟩)
    · skip
      refine value_ (w1 := ?_) (v := ?_) (by rfl) rfl ?_ ?_
      rotate_left 2
      · go_simp
        constructor
        · rfl
        · rfl
      refine hK.out _ _ ⟨(fun i => (((Below.refl _ _).alloc (Nat.le_refl _) _).cell (p := ⟨w.heap.size, i, none⟩) hHeld.2).trans (hHeld.1 i)), (Nat.lt_of_lt_of_eq (Nat.lt_succ_of_lt hHeld.2) (World.size_alloc _ _).symm)⟩ (fun hHeld => ?_)
      clear hK K
      refine norm_ (a' := ?_) ?_ ?_
      rotate_left
      · show Act.put _ (some 3) _ = _
        simp only [Act.put, List.setIfInBounds_toArray, List.set_cons_zero, List.set_cons_succ, i64_w, i32_w]
        rfl
      refine one_ (i := 2) (N := some 7) #[true, true, true, false, true, true, true, false, true, false] rfl rfl (by kernel_rfl) (by decide) (fun K hK => ?_)
      refine goes_ Tryz.func19 (by kernel_rfl) rfl #[.int .i64 n] (by rfl) rfl rfl (by simp only [List.map_toArray, List.map_cons, List.map_nil]; rfl) ?_
      with_reducible refine (HKd.out _).mono ?_
      rintro e w2 ⟨rfl, hd2⟩
      refine ⟨_, rfl, ?_⟩
      have HB2 := Aside0.mk hd2.below
      clear hd2
      refine hK.out _ _ ⟨(fun i => (HB2.out.cell (p := ⟨w.heap.size, i, none⟩) hHeld.2).trans (hHeld.1 i)), (Nat.lt_of_lt_of_le hHeld.2 HB2.out.size)⟩ (fun hHeld => ?_)
      clear hK K
      refine norm_ (a' := ?_) ?_ ?_
      rotate_left
      · show Act.put _ (some 7) _ = _
        simp only [Act.put, List.setIfInBounds_toArray, List.set_cons_zero, List.set_cons_succ, i64_w, i32_w]
        rfl
      refine pure_ (i := 3) (N := some 8) (v := ?_) (a' := ?_) #[true, true, true, true, true, true, true, false, true, false] rfl rfl (by kernel_rfl) (fun _ _ _ h => h) (Or.inl ⟨by rfl, ?_⟩) ?_ ?_
      rotate_left
      · intro w'
        go_simp
        with_reducible rfl
      rotate_left
      · simp only [Act.put, List.setIfInBounds_toArray, List.set_cons_zero, List.set_cons_succ, i64_w, i32_w]
        rfl
      refine one_ (i := 7) (N := some 12) #[true, true, true, true, true, true, true, true, true, false] rfl rfl (by kernel_rfl) (by decide) (fun K hK => ?_)
      refine value_ (w1 := ?_) (v := ?_) (by rfl) rfl ?_ ?_
      rotate_left 2
      · go_simp
        constructor
        · rfl
        · rfl
      refine hK.out _ _ ⟨(fun i => (((Below.refl _ _).alloc (Nat.le_refl _) _).cell (p := ⟨w.heap.size, i, none⟩) hHeld.2).trans (hHeld.1 i)), (Nat.lt_of_lt_of_eq (Nat.lt_succ_of_lt hHeld.2) (World.size_alloc _ _).symm)⟩ (fun hHeld => ?_)
      clear hK K
      refine norm_ (a' := ?_) ?_ ?_
      rotate_left
      · show Act.put _ (some 12) _ = _
        simp only [Act.put, List.setIfInBounds_toArray, List.set_cons_zero, List.set_cons_succ, i64_w, i32_w]
        rfl
      exact norm_ (by simp only [putAll, Act.put, List.setIfInBounds_toArray, List.set_cons_zero, List.set_cons_succ]) (hCont (w.heap.size + 1, w2.heap.size) _ ⟨hHeld, (by have q := OutAt.mk3 (Nat.le_refl _) HX0.out HbL.out HLo.out ⟨HB2.out.os, HB2.out.tape, HB2.out.output, HB2.out.size, HB2.out.block⟩ (⟨35, kw⟩ : S74) ⟨11, id⟩; rw [World.size_alloc] at q; exact q)⟩)
  rintro ⟨g, qb⟩ w4 ⟨hHeld, hO⟩
  have HO := Aside0.mk hO
  have c4 := blk_cell hO.gz 0
  have z4 := blk_frozen hO.gz 0
  clear hO
  refine norm_ (a' := ?_) ?_ ?_
  rotate_left
  · simp only [putAll, Act.put, List.setIfInBounds_toArray, List.set_cons_zero, List.set_cons_succ]
    rfl
  refine last_ (i := 9) (N := none) #[true, true, true, true, true, true, true, true, true, true] rfl rfl (by kernel_rfl) (by decide) (fun K hK => ?_)
  refine skip_ (w1 := ?_) (by rfl) rfl ?_ ?_
  rotate_left
  · go_simp
    rfl
  refine hK.out _ _ ?_
  clear hK K
  refine done_ (by kernel_rfl) ?_
  have H2 := Aside0.mk HO.out.fill
  have hc := fun i => blk_cell H2.out.box i
  go_wp2_with (first
        | (go_at_call 44; ((with_reducible refine (H2.out.put 1 (.iface 9 (.string ac)) ac (fun X _ => text_str ac X) (by simp)).mono ?_)); rintro en w13 ⟨rfl, h⟩; have H3 := Aside0.mk h; clear h hc; have hc := fun i => blk_cell H3.out.box i)
        | (go_at_call 44; ((with_reducible refine (H3.out.put 55 (.iface 9 (.string sy)) sy (fun X _ => text_str sy X) (by simp)).mono ?_)); rintro en w14 ⟨rfl, h⟩; have H4 := Aside0.mk h; clear h hc; have hc := fun i => blk_cell H4.out.box i)
        | (go_at_call 44; ((with_reducible refine (H4.out.put 54 (.iface 3 (.int .i64 sd)) (digitsB sd) (fun X hX => text_int sd X _ (HIt.out X sd hX (HR_sd.out))) (by simp)).mono ?_)); rintro en w15 ⟨rfl, h⟩; have H5 := Aside0.mk h; clear h hc; have hc := fun i => blk_cell H5.out.box i)
        | (go_at_call 44; ((with_reducible refine (H5.out.put 38 (.iface 3 (.int .i64 q)) (digitsB q) (fun X hX => text_int q X _ (HIt.out X q hX (HR_q.out))) (by simp)).mono ?_)); rintro en w16 ⟨rfl, h⟩; have H6 := Aside0.mk h; clear h hc; have hc := fun i => blk_cell H6.out.box i)
        | (go_at_call 44; ((with_reducible refine (H6.out.put 44 (.iface 3 (.int .i64 p)) (digitsB p) (fun X hX => text_int p X _ (HIt.out X p hX (HR_p.out))) (by simp)).mono ?_)); rintro en w17 ⟨rfl, h⟩; have H7 := Aside0.mk h; clear h hc; have hc := fun i => blk_cell H7.out.box i)
        | (go_at_call 44; ((with_reducible refine (H7.out.put 5001 (.iface 3 (.int .i64 al)) (digitsB al) (fun X hX => text_int al X _ (HIt.out X al hX (HR_al.out))) (by simp)).mono ?_)); rintro en w18 ⟨rfl, h⟩; have H8 := Aside0.mk h; clear h hc; have hc := fun i => blk_cell H8.out.box i)
        | (go_at_call 44; ((with_reducible refine (H8.out.put 5002 (.iface 3 (.int .i64 st)) (digitsB st) (fun X hX => text_int st X _ (HIt.out X st hX (HR_st.out))) (by simp)).mono ?_)); rintro en w19 ⟨rfl, h⟩; have H9 := Aside0.mk h; clear h hc; have hc := fun i => blk_cell H9.out.box i)
        | (go_at_call 44; ((with_reducible refine (H9.out.put 5003 (.iface 3 (.int .i64 en)) (digitsB en) (fun X hX => text_int en X _ (HIt.out X en hX (HR_en.out))) (by simp)).mono ?_)); rintro en w20 ⟨rfl, h⟩; have H10 := Aside0.mk h; clear h hc; have hc := fun i => blk_cell H10.out.box i)
        | (go_at_call 44; ((with_reducible refine (H10.out.put 5005 (.iface 3 (.int .i64 sh)) (digitsB sh) (fun X hX => text_int sh X _ (HIt.out X sh hX (HR_sh.out))) (by simp)).mono ?_)); rintro en w21 ⟨rfl, h⟩; have H11 := Aside0.mk h; clear h hc; have hc := fun i => blk_cell H11.out.box i; obtain ⟨A9, c9, hc9, hR9⟩ := H11.out.sheet.row; have HS9 := Aside0.mk hR9; clear hR9))
  go_ret
  exact FieldsTo.mk_ HS9.out rfl (H11.out.low.below (fun _ h => h) (Nat.le_refl _)) 
set_option maxRecDepth 100000 in
set_option maxHeartbeats 8000000 in
theorem fields_1_x (w : World) (hT_ : Aside0 (Tabs_ w)) (n sd q p al st en rt sh : Int) (id tg ac sy kw nb : ByteArray) (A : Option Addr) (c : Nat) (l : List Int) (HKd : Aside0 (∀ X, Calls Tryz.prog 19 #[.int .i64 n] X fun e w' => e = .returned (.string kw) ∧ Drawn0 X w')) (t1 : (n == 1) = true) (t3 : (al == 2) = false) (t4 : (al == 3) = false) (t5 : (al == 4) = false) (hr_sd : 0 ≤ sd ∧ sd ≤ 9223372036854775807) (hr_q : 0 ≤ q ∧ q ≤ 9223372036854775807) (hr_p : 0 ≤ p ∧ p ≤ 9223372036854775807) (hr_al : 0 ≤ al ∧ al ≤ 9223372036854775807) (hr_st : 0 ≤ st ∧ st ≤ 9223372036854775807) (hr_en : 0 ≤ en ∧ en ≤ 9223372036854775807) :
    Calls Tryz.prog 16 #[.agg #[.int .i64 n, .string id, .string tg, .string ac, .string sy, .int .i64 sd, .int .i64 q, .int .i64 p, .int .i64 al, .int .i64 st, .int .i64 en, .int .i64 rt, .int .i64 sh, .slice A l.length c]] w fun e w' => FieldsTo [⟨35, kw⟩, ⟨11, id⟩, ⟨1, ac⟩, ⟨55, sy⟩, ⟨54, digitsB sd⟩, ⟨38, digitsB q⟩, ⟨44, digitsB p⟩, ⟨5001, digitsB al⟩, ⟨5002, digitsB st⟩, ⟨5003, digitsB en⟩] w e w' := by
  have HX0 := Aside0.mk (blk_new w (.cells #[.int .i64 n, .string id, .string tg, .string ac, .string sy, .int .i64 sd, .int .i64 q, .int .i64 p, .int .i64 al, .int .i64 st, .int .i64 en, .int .i64 rt, .int .i64 sh, .slice A l.length c] 24))
  have HbL : Aside0 (w.heap.size < (w.alloc (.cells #[.int .i64 n, .string id, .string tg, .string ac, .string sy, .int .i64 sd, .int .i64 q, .int .i64 p, .int .i64 al, .int .i64 st, .int .i64 en, .int .i64 rt, .int .i64 sh, .slice A l.length c] 24)).heap.size) := ⟨by rw [World.size_alloc]; omega⟩
  have HLo : Aside0 (Below w.heap.size w (w.alloc (.cells #[.int .i64 n, .string id, .string tg, .string ac, .string sy, .int .i64 sd, .int .i64 q, .int .i64 p, .int .i64 al, .int .i64 st, .int .i64 en, .int .i64 rt, .int .i64 sh, .slice A l.length c] 24))) := ⟨(Below.refl _ _).alloc (Nat.le_refl _) _⟩
  have HIt : Aside0 (∀ X x, Turned (fun k => w.heap.size ≤ k) w X → 0 ≤ x ∧ x ≤ 9223372036854775807 → Calls Tryz.prog 67 #[.int .i64 x] X fun e w' => e = .returned (.string (digitsB x)) ∧ Below X.heap.size X w') := ⟨fun X x hX hx => strconv_Itoa.calls x _ X ⟨hT_.out.below (hX.below (fun _ h => h) (Nat.le_refl _))⟩ (by unfold strconv_Itoa.f; rw [if_pos hx])⟩
  have HR_sd := Aside0.mk hr_sd
  have HR_q := Aside0.mk hr_q
  have HR_p := Aside0.mk hr_p
  have HR_al := Aside0.mk hr_al
  have HR_st := Aside0.mk hr_st
  have HR_en := Aside0.mk hr_en
  clear hr_sd hr_q hr_p hr_al hr_st hr_en
  have hmf : ∀ (fn : Fn) (first cap : Array Value) (w : World), (Instr.makeFunc fn first cap).run Tryz.prog w = .ok (.func fn first cap) w := fun _ _ _ _ => rfl
  have hcs : Tryz.prog.concrete 9 = true := by kernel_rfl
  have hci : Tryz.prog.concrete 3 = true := by kernel_rfl
  have hcl : Tryz.prog.concrete 22 = true := by kernel_rfl
  go_enter Tryz.func16, Tryz.ntmps16
  go_wp2
  refine start_ (n := 10) (S := fun w' => (∀ i, w'.cell? ⟨w.heap.size, i, none⟩ = (#[.int .i64 n, .string id, .string tg, .string ac, .string sy, .int .i64 sd, .int .i64 q, .int .i64 p, .int .i64 al, .int .i64 st, .int .i64 en, .int .i64 rt, .int .i64 sh, .slice A l.length c] : Array Value)[i]?) ∧ (w.heap.size < w'.heap.size)) (ds := [9]) #[false, false, false, false, false, false, false, false, false, false] (by kernel_rfl) rfl rfl ⟨(fun i => blk_cell HX0.out i), HbL.out⟩ (fun hHeld => ?_)
  refine pure_ (i := 0) (N := some 5) (v := ?_) (a' := ?_) #[true, false, false, false, false, false, false, false, false, false] rfl rfl (by kernel_rfl) (fun _ _ _ h => h) (Or.inl ⟨by rfl, ?_⟩) ?_ ?_
  rotate_left
  · intro w'
    go_simp
    with_reducible rfl
  rotate_left
  · simp only [Act.put, List.setIfInBounds_toArray, List.set_cons_zero, List.set_cons_succ, i64_w, i32_w]
    rfl
  refine pure_ (i := 4) (N := some 9) (v := ?_) (a' := ?_) #[true, false, false, false, true, false, false, false, false, false] rfl rfl (by kernel_rfl) (fun _ _ _ h => h) (Or.inl ⟨by rfl, ?_⟩) ?_ ?_
  rotate_left
  · intro w'
    go_simp
    with_reducible rfl
  rotate_left
  · simp only [Act.put, List.setIfInBounds_toArray, List.set_cons_zero, List.set_cons_succ, i64_w, i32_w]
    rfl
  refine take_ (i := 1) (N := some 6) (v := ?_) (a' := ?_) #[true, true, false, false, true, false, false, false, false, false] rfl rfl (by kernel_rfl) (fun _ _ _ h => h) (Or.inl ⟨by rfl, ?_⟩) hHeld ?_ ?_
  rotate_left
  · rintro w' ⟨s0, s1⟩
    go_simp
    with_reducible rfl
  rotate_left
  · simp only [Act.put, List.setIfInBounds_toArray, List.set_cons_zero, List.set_cons_succ, i64_w, i32_w]
    rfl
  refine take_ (i := 5) (N := some 10) (v := ?_) (a' := ?_) #[true, true, false, false, true, true, false, false, false, false] rfl rfl (by kernel_rfl) (fun _ _ _ h => h) (Or.inl ⟨by rfl, ?_⟩) hHeld ?_ ?_
  rotate_left
  · rintro w' ⟨s0, s1⟩
    go_simp
    with_reducible rfl
  rotate_left
  · simp only [Act.put, List.setIfInBounds_toArray, List.set_cons_zero, List.set_cons_succ, i64_w, i32_w]
    rfl
  refine pure_ (i := 6) (N := some 11) (v := ?_) (a' := ?_) #[true, true, false, false, true, true, true, false, false, false] rfl rfl (by kernel_rfl) (fun _ _ _ h => h) (Or.inl ⟨by rfl, ?_⟩) ?_ ?_
  rotate_left
  · intro w'
    go_simp
    with_reducible rfl
  rotate_left
  · simp only [Act.put, List.setIfInBounds_toArray, List.set_cons_zero, List.set_cons_succ, i64_w, i32_w]
    rfl
  refine join_ (σ := Nat × Nat) 1 #[true, true, true, true, true, true, true, true, true, false] (fun s_ => [(7, .string kw), (12, .slice (some ⟨s_.2, 0, none⟩) 2 2), (3, .pointer (some ⟨s_.1, 0, none⟩)), (8, .agg #[.int .i64 35, .string kw])]) (fun s_ w' => ((∀ i, w'.cell? ⟨w.heap.size, i, none⟩ = (#[.int .i64 n, .string id, .string tg, .string ac, .string sy, .int .i64 sd, .int .i64 q, .int .i64 p, .int .i64 al, .int .i64 st, .int .i64 en, .int .i64 rt, .int .i64 sh, .slice A l.length c] : Array Value)[i]?) ∧ (w.heap.size < w'.heap.size)) ∧ OutAt w w.heap.size #[.int .i64 n, .string id, .string tg, .string ac, .string sy, .int .i64 sd, .int .i64 q, .int .i64 p, .int .i64 al, .int .i64 st, .int .i64 en, .int .i64 rt, .int .i64 sh, .slice A l.length c] 24 s_.1 s_.2 [⟨35, kw⟩, ⟨11, id⟩] w') ?_ ?_
  rotate_left
  · intro hCont
    refine two_ (i := 2) (j := 8) (Ni := some 7) (Nj := some 3) #[true, true, true, false, true, true, true, false, false, false] #[true, true, false, false, true, true, true, false, true, false] rfl rfl rfl rfl (by kernel_rfl) (by decide) (by decide) (fun K hK => ?_) (fun K hK => ?_)
    · skip
      refine goes_ Tryz.func19 (by kernel_rfl) rfl #[.int .i64 n] (by rfl) rfl rfl (by simp only [List.map_toArray, List.map_cons, List.map_nil]; rfl) ?_
      with_reducible refine (HKd.out _).mono ?_
      rintro e w2 ⟨rfl, hd2⟩
      refine ⟨_, rfl, ?_⟩
      have HB2 := Aside0.mk hd2.below
      clear hd2
      refine hK.out _ _ ⟨(fun i => (HB2.out.cell (p := ⟨w.heap.size, i, none⟩) hHeld.2).trans (hHeld.1 i)), (Nat.lt_of_lt_of_le hHeld.2 HB2.out.size)⟩ (fun hHeld => ?_)
      clear hK K
      refine norm_ (a' := ?_) ?_ ?_
      rotate_left
      · show Act.put _ (some 7) _ = _
        simp only [Act.put, List.setIfInBounds_toArray, List.set_cons_zero, List.set_cons_succ, i64_w, i32_w]
        rfl
      refine pure_ (i := 3) (N := some 8) (v := ?_) (a' := ?_) #[true, true, true, true, true, true, true, false, false, false] rfl rfl (by kernel_rfl) (fun _ _ _ h => h) (Or.inl ⟨by rfl, ?_⟩) ?_ ?_
      rotate_left
      · intro w'
        go_simp
        with_reducible rfl
      rotate_left
      · simp only [Act.put, List.setIfInBounds_toArray, List.set_cons_zero, List.set_cons_succ, i64_w, i32_w]
        rfl
      refine two_ (i := 7) (j := 8) (Ni := some 12) (Nj := some 3) #[true, true, true, true, true, true, true, true, false, false] #[true, true, true, true, true, true, true, false, true, false] rfl rfl rfl rfl (by kernel_rfl) (by decide) (by decide) (fun K hK => ?_) (fun K hK => ?_)
      · skip
        refine value_ (w1 := ?_) (v := ?_) (by rfl) rfl ?_ ?_
        rotate_left 2
        · go_simp
          constructor
          · rfl
          · rfl
        refine hK.out _ _ ⟨(fun i => (((Below.refl _ _).alloc (Nat.le_refl _) _).cell (p := ⟨w.heap.size, i, none⟩) hHeld.2).trans (hHeld.1 i)), (Nat.lt_of_lt_of_eq (Nat.lt_succ_of_lt hHeld.2) (World.size_alloc _ _).symm)⟩ (fun hHeld => ?_)
        clear hK K
        refine norm_ (a' := ?_) ?_ ?_
        rotate_left
        · show Act.put _ (some 12) _ = _
          simp only [Act.put, List.setIfInBounds_toArray, List.set_cons_zero, List.set_cons_succ, i64_w, i32_w]
          rfl
        refine one_ (i := 8) (N := some 3) #[true, true, true, true, true, true, true, true, true, false] rfl rfl (by kernel_rfl) (by decide) (fun K hK => ?_)
        refine value_ (w1 := ?_) (v := ?_) (by rfl) rfl ?_ ?_
        rotate_left 2
        · go_simp
          constructor
          · rfl
          · rfl
        refine hK.out _ _ ⟨(fun i => (((Below.refl _ _).alloc (Nat.le_refl _) _).cell (p := ⟨w.heap.size, i, none⟩) hHeld.2).trans (hHeld.1 i)), (Nat.lt_of_lt_of_eq (Nat.lt_succ_of_lt hHeld.2) (World.size_alloc _ _).symm)⟩ (fun hHeld => ?_)
        clear hK K
        refine norm_ (a' := ?_) ?_ ?_
        rotate_left
        · show Act.put _ (some 3) _ = _
          simp only [Act.put, List.setIfInBounds_toArray, List.set_cons_zero, List.set_cons_succ, i64_w, i32_w]
          rfl
        exact norm_ (by simp only [putAll, Act.put, List.setIfInBounds_toArray, List.set_cons_zero, List.set_cons_succ]) (hCont (w2.heap.size + 1, w2.heap.size) _ ⟨hHeld, OutAt.mk1 (Nat.le_refl _) HX0.out HbL.out HLo.out ⟨HB2.out.os, HB2.out.tape, HB2.out.output, HB2.out.size, HB2.out.block⟩ _ _⟩)
      · skip
        refine value_ (w1 := ?_) (v := ?_) (by rfl) rfl ?_ ?_
        rotate_left 2
        · go_simp
          constructor
          · rfl
          · rfl
        refine hK.out _ _ ⟨(fun i => (((Below.refl _ _).alloc (Nat.le_refl _) _).cell (p := ⟨w.heap.size, i, none⟩) hHeld.2).trans (hHeld.1 i)), (Nat.lt_of_lt_of_eq (Nat.lt_succ_of_lt hHeld.2) (World.size_alloc _ _).symm)⟩ (fun hHeld => ?_)
        clear hK K
        refine norm_ (a' := ?_) ?_ ?_
        rotate_left
        · show Act.put _ (some 3) _ = _
          simp only [Act.put, List.setIfInBounds_toArray, List.set_cons_zero, List.set_cons_succ, i64_w, i32_w]
          rfl
        refine one_ (i := 7) (N := some 12) #[true, true, true, true, true, true, true, true, true, false] rfl rfl (by kernel_rfl) (by decide) (fun K hK => ?_)
        refine value_ (w1 := ?_) (v := ?_) (by rfl) rfl ?_ ?_
        rotate_left 2
        · go_simp
          constructor
          · rfl
          · rfl
        refine hK.out _ _ ⟨(fun i => (((Below.refl _ _).alloc (Nat.le_refl _) _).cell (p := ⟨w.heap.size, i, none⟩) hHeld.2).trans (hHeld.1 i)), (Nat.lt_of_lt_of_eq (Nat.lt_succ_of_lt hHeld.2) (World.size_alloc _ _).symm)⟩ (fun hHeld => ?_)
        clear hK K
        refine norm_ (a' := ?_) ?_ ?_
        rotate_left
        · show Act.put _ (some 12) _ = _
          simp only [Act.put, List.setIfInBounds_toArray, List.set_cons_zero, List.set_cons_succ, i64_w, i32_w]
          rfl
        exact norm_ (by simp only [putAll, Act.put, List.setIfInBounds_toArray, List.set_cons_zero, List.set_cons_succ]) (hCont (w2.heap.size, w2.heap.size + 1) _ ⟨hHeld, OutAt.mk2 (Nat.le_refl _) HX0.out HbL.out HLo.out ⟨HB2.out.os, HB2.out.tape, HB2.out.output, HB2.out.size, HB2.out.block⟩ _ _⟩)
    · skip
      refine value_ (w1 := ?_) (v := ?_) (by rfl) rfl ?_ ?_
      rotate_left 2
      · go_simp
        constructor
        · rfl
        · rfl
      refine hK.out _ _ ⟨(fun i => (((Below.refl _ _).alloc (Nat.le_refl _) _).cell (p := ⟨w.heap.size, i, none⟩) hHeld.2).trans (hHeld.1 i)), (Nat.lt_of_lt_of_eq (Nat.lt_succ_of_lt hHeld.2) (World.size_alloc _ _).symm)⟩ (fun hHeld => ?_)
      clear hK K
      refine norm_ (a' := ?_) ?_ ?_
      rotate_left
      · show Act.put _ (some 3) _ = _
        simp only [Act.put, List.setIfInBounds_toArray, List.set_cons_zero, List.set_cons_succ, i64_w, i32_w]
        rfl
      refine one_ (i := 2) (N := some 7) #[true, true, true, false, true, true, true, false, true, false] rfl rfl (by kernel_rfl) (by decide) (fun K hK => ?_)
      refine goes_ Tryz.func19 (by kernel_rfl) rfl #[.int .i64 n] (by rfl) rfl rfl (by simp only [List.map_toArray, List.map_cons, List.map_nil]; rfl) ?_
      with_reducible refine (HKd.out _).mono ?_
      rintro e w2 ⟨rfl, hd2⟩
      refine ⟨_, rfl, ?_⟩
      have HB2 := Aside0.mk hd2.below
      clear hd2
      refine hK.out _ _ ⟨(fun i => (HB2.out.cell (p := ⟨w.heap.size, i, none⟩) hHeld.2).trans (hHeld.1 i)), (Nat.lt_of_lt_of_le hHeld.2 HB2.out.size)⟩ (fun hHeld => ?_)
      clear hK K
      refine norm_ (a' := ?_) ?_ ?_
      rotate_left
      · show Act.put _ (some 7) _ = _
        simp only [Act.put, List.setIfInBounds_toArray, List.set_cons_zero, List.set_cons_succ, i64_w, i32_w]
        rfl
      refine pure_ (i := 3) (N := some 8) (v := ?_) (a' := ?_) #[true, true, true, true, true, true, true, false, true, false] rfl rfl (by kernel_rfl) (fun _ _ _ h => h) (Or.inl ⟨by rfl, ?_⟩) ?_ ?_
      rotate_left
      · intro w'
        go_simp
        with_reducible rfl
      rotate_left
      · simp only [Act.put, List.setIfInBounds_toArray, List.set_cons_zero, List.set_cons_succ, i64_w, i32_w]
        rfl
      refine one_ (i := 7) (N := some 12) #[true, true, true, true, true, true, true, true, true, false] rfl rfl (by kernel_rfl) (by decide) (fun K hK => ?_)
      refine value_ (w1 := ?_) (v := ?_) (by rfl) rfl ?_ ?_
      rotate_left 2
      · go_simp
        constructor
        · rfl
        · rfl
      refine hK.out _ _ ⟨(fun i => (((Below.refl _ _).alloc (Nat.le_refl _) _).cell (p := ⟨w.heap.size, i, none⟩) hHeld.2).trans (hHeld.1 i)), (Nat.lt_of_lt_of_eq (Nat.lt_succ_of_lt hHeld.2) (World.size_alloc _ _).symm)⟩ (fun hHeld => ?_)
      clear hK K
      refine norm_ (a' := ?_) ?_ ?_
      rotate_left
      · show Act.put _ (some 12) _ = _
        simp only [Act.put, List.setIfInBounds_toArray, List.set_cons_zero, List.set_cons_succ, i64_w, i32_w]
        rfl
      exact norm_ (by simp only [putAll, Act.put, List.setIfInBounds_toArray, List.set_cons_zero, List.set_cons_succ]) (hCont (w.heap.size + 1, w2.heap.size) _ ⟨hHeld, (by have q := OutAt.mk3 (Nat.le_refl _) HX0.out HbL.out HLo.out ⟨HB2.out.os, HB2.out.tape, HB2.out.output, HB2.out.size, HB2.out.block⟩ (⟨35, kw⟩ : S74) ⟨11, id⟩; rw [World.size_alloc] at q; exact q)⟩)
  rintro ⟨g, qb⟩ w4 ⟨hHeld, hO⟩
  have HO := Aside0.mk hO
  have c4 := blk_cell hO.gz 0
  have z4 := blk_frozen hO.gz 0
  clear hO
  refine norm_ (a' := ?_) ?_ ?_
  rotate_left
  · simp only [putAll, Act.put, List.setIfInBounds_toArray, List.set_cons_zero, List.set_cons_succ]
    rfl
  refine last_ (i := 9) (N := none) #[true, true, true, true, true, true, true, true, true, true] rfl rfl (by kernel_rfl) (by decide) (fun K hK => ?_)
  refine skip_ (w1 := ?_) (by rfl) rfl ?_ ?_
  rotate_left
  · go_simp
    rfl
  refine hK.out _ _ ?_
  clear hK K
  refine done_ (by kernel_rfl) ?_
  have H2 := Aside0.mk HO.out.fill
  have hc := fun i => blk_cell H2.out.box i
  go_wp2_with (first
        | (go_at_call 44; ((with_reducible refine (H2.out.put 1 (.iface 9 (.string ac)) ac (fun X _ => text_str ac X) (by simp)).mono ?_)); rintro en w13 ⟨rfl, h⟩; have H3 := Aside0.mk h; clear h hc; have hc := fun i => blk_cell H3.out.box i)
        | (go_at_call 44; ((with_reducible refine (H3.out.put 55 (.iface 9 (.string sy)) sy (fun X _ => text_str sy X) (by simp)).mono ?_)); rintro en w14 ⟨rfl, h⟩; have H4 := Aside0.mk h; clear h hc; have hc := fun i => blk_cell H4.out.box i)
        | (go_at_call 44; ((with_reducible refine (H4.out.put 54 (.iface 3 (.int .i64 sd)) (digitsB sd) (fun X hX => text_int sd X _ (HIt.out X sd hX (HR_sd.out))) (by simp)).mono ?_)); rintro en w15 ⟨rfl, h⟩; have H5 := Aside0.mk h; clear h hc; have hc := fun i => blk_cell H5.out.box i)
        | (go_at_call 44; ((with_reducible refine (H5.out.put 38 (.iface 3 (.int .i64 q)) (digitsB q) (fun X hX => text_int q X _ (HIt.out X q hX (HR_q.out))) (by simp)).mono ?_)); rintro en w16 ⟨rfl, h⟩; have H6 := Aside0.mk h; clear h hc; have hc := fun i => blk_cell H6.out.box i)
        | (go_at_call 44; ((with_reducible refine (H6.out.put 44 (.iface 3 (.int .i64 p)) (digitsB p) (fun X hX => text_int p X _ (HIt.out X p hX (HR_p.out))) (by simp)).mono ?_)); rintro en w17 ⟨rfl, h⟩; have H7 := Aside0.mk h; clear h hc; have hc := fun i => blk_cell H7.out.box i)
        | (go_at_call 44; ((with_reducible refine (H7.out.put 5001 (.iface 3 (.int .i64 al)) (digitsB al) (fun X hX => text_int al X _ (HIt.out X al hX (HR_al.out))) (by simp)).mono ?_)); rintro en w18 ⟨rfl, h⟩; have H8 := Aside0.mk h; clear h hc; have hc := fun i => blk_cell H8.out.box i)
        | (go_at_call 44; ((with_reducible refine (H8.out.put 5002 (.iface 3 (.int .i64 st)) (digitsB st) (fun X hX => text_int st X _ (HIt.out X st hX (HR_st.out))) (by simp)).mono ?_)); rintro en w19 ⟨rfl, h⟩; have H9 := Aside0.mk h; clear h hc; have hc := fun i => blk_cell H9.out.box i)
        | (go_at_call 44; ((with_reducible refine (H9.out.put 5003 (.iface 3 (.int .i64 en)) (digitsB en) (fun X hX => text_int en X _ (HIt.out X en hX (HR_en.out))) (by simp)).mono ?_)); rintro en w20 ⟨rfl, h⟩; have H10 := Aside0.mk h; clear h hc; have hc := fun i => blk_cell H10.out.box i; obtain ⟨A9, c9, hc9, hR9⟩ := H10.out.sheet.row; have HS9 := Aside0.mk hR9; clear hR9))
  go_ret
  exact FieldsTo.mk_ HS9.out rfl (H10.out.low.below (fun _ h => h) (Nat.le_refl _)) 
set_option maxRecDepth 100000 in
set_option maxHeartbeats 8000000 in
theorem fields_3 (w : World) (hT_ : Aside0 (Tabs_ w)) (n sd q p al st en rt sh : Int) (id tg ac sy kw nb : ByteArray) (A : Option Addr) (c : Nat) (l : List Int) (HKd : Aside0 (∀ X, Calls Tryz.prog 19 #[.int .i64 n] X fun e w' => e = .returned (.string kw) ∧ Drawn0 X w')) (t1 : (n == 1) = false) (t2 : (n == 3) = true) (hr_q : 0 ≤ q ∧ q ≤ 9223372036854775807) (hr_p : 0 ≤ p ∧ p ≤ 9223372036854775807) (hr_en : 0 ≤ en ∧ en ≤ 9223372036854775807) :
    Calls Tryz.prog 16 #[.agg #[.int .i64 n, .string id, .string tg, .string ac, .string sy, .int .i64 sd, .int .i64 q, .int .i64 p, .int .i64 al, .int .i64 st, .int .i64 en, .int .i64 rt, .int .i64 sh, .slice A l.length c]] w fun e w' => FieldsTo [⟨35, kw⟩, ⟨11, id⟩, ⟨41, tg⟩, ⟨38, digitsB q⟩, ⟨44, digitsB p⟩, ⟨5003, digitsB en⟩] w e w' := by
  have HX0 := Aside0.mk (blk_new w (.cells #[.int .i64 n, .string id, .string tg, .string ac, .string sy, .int .i64 sd, .int .i64 q, .int .i64 p, .int .i64 al, .int .i64 st, .int .i64 en, .int .i64 rt, .int .i64 sh, .slice A l.length c] 24))
  have HbL : Aside0 (w.heap.size < (w.alloc (.cells #[.int .i64 n, .string id, .string tg, .string ac, .string sy, .int .i64 sd, .int .i64 q, .int .i64 p, .int .i64 al, .int .i64 st, .int .i64 en, .int .i64 rt, .int .i64 sh, .slice A l.length c] 24)).heap.size) := ⟨by rw [World.size_alloc]; omega⟩
  have HLo : Aside0 (Below w.heap.size w (w.alloc (.cells #[.int .i64 n, .string id, .string tg, .string ac, .string sy, .int .i64 sd, .int .i64 q, .int .i64 p, .int .i64 al, .int .i64 st, .int .i64 en, .int .i64 rt, .int .i64 sh, .slice A l.length c] 24))) := ⟨(Below.refl _ _).alloc (Nat.le_refl _) _⟩
  have HIt : Aside0 (∀ X x, Turned (fun k => w.heap.size ≤ k) w X → 0 ≤ x ∧ x ≤ 9223372036854775807 → Calls Tryz.prog 67 #[.int .i64 x] X fun e w' => e = .returned (.string (digitsB x)) ∧ Below X.heap.size X w') := ⟨fun X x hX hx => strconv_Itoa.calls x _ X ⟨hT_.out.below (hX.below (fun _ h => h) (Nat.le_refl _))⟩ (by unfold strconv_Itoa.f; rw [if_pos hx])⟩
  have HR_q := Aside0.mk hr_q
  have HR_p := Aside0.mk hr_p
  have HR_en := Aside0.mk hr_en
  clear hr_q hr_p hr_en
  have hmf : ∀ (fn : Fn) (first cap : Array Value) (w : World), (Instr.makeFunc fn first cap).run Tryz.prog w = .ok (.func fn first cap) w := fun _ _ _ _ => rfl
  have hcs : Tryz.prog.concrete 9 = true := by kernel_rfl
  have hci : Tryz.prog.concrete 3 = true := by kernel_rfl
  have hcl : Tryz.prog.concrete 22 = true := by kernel_rfl
  go_enter Tryz.func16, Tryz.ntmps16
  go_wp2
  refine start_ (n := 10) (S := fun w' => (∀ i, w'.cell? ⟨w.heap.size, i, none⟩ = (#[.int .i64 n, .string id, .string tg, .string ac, .string sy, .int .i64 sd, .int .i64 q, .int .i64 p, .int .i64 al, .int .i64 st, .int .i64 en, .int .i64 rt, .int .i64 sh, .slice A l.length c] : Array Value)[i]?) ∧ (w.heap.size < w'.heap.size)) (ds := [9]) #[false, false, false, false, false, false, false, false, false, false] (by kernel_rfl) rfl rfl ⟨(fun i => blk_cell HX0.out i), HbL.out⟩ (fun hHeld => ?_)
  refine pure_ (i := 0) (N := some 5) (v := ?_) (a' := ?_) #[true, false, false, false, false, false, false, false, false, false] rfl rfl (by kernel_rfl) (fun _ _ _ h => h) (Or.inl ⟨by rfl, ?_⟩) ?_ ?_
  rotate_left
  · intro w'
    go_simp
    with_reducible rfl
  rotate_left
  · simp only [Act.put, List.setIfInBounds_toArray, List.set_cons_zero, List.set_cons_succ, i64_w, i32_w]
    rfl
  refine pure_ (i := 4) (N := some 9) (v := ?_) (a' := ?_) #[true, false, false, false, true, false, false, false, false, false] rfl rfl (by kernel_rfl) (fun _ _ _ h => h) (Or.inl ⟨by rfl, ?_⟩) ?_ ?_
  rotate_left
  · intro w'
    go_simp
    with_reducible rfl
  rotate_left
  · simp only [Act.put, List.setIfInBounds_toArray, List.set_cons_zero, List.set_cons_succ, i64_w, i32_w]
    rfl
  refine take_ (i := 1) (N := some 6) (v := ?_) (a' := ?_) #[true, true, false, false, true, false, false, false, false, false] rfl rfl (by kernel_rfl) (fun _ _ _ h => h) (Or.inl ⟨by rfl, ?_⟩) hHeld ?_ ?_
  rotate_left
  · rintro w' ⟨s0, s1⟩
    go_simp
    with_reducible rfl
  rotate_left
  · simp only [Act.put, List.setIfInBounds_toArray, List.set_cons_zero, List.set_cons_succ, i64_w, i32_w]
    rfl
  refine take_ (i := 5) (N := some 10) (v := ?_) (a' := ?_) #[true, true, false, false, true, true, false, false, false, false] rfl rfl (by kernel_rfl) (fun _ _ _ h => h) (Or.inl ⟨by rfl, ?_⟩) hHeld ?_ ?_
  rotate_left
  · rintro w' ⟨s0, s1⟩
    go_simp
    with_reducible rfl
  rotate_left
  · simp only [Act.put, List.setIfInBounds_toArray, List.set_cons_zero, List.set_cons_succ, i64_w, i32_w]
    rfl
  refine pure_ (i := 6) (N := some 11) (v := ?_) (a' := ?_) #[true, true, false, false, true, true, true, false, false, false] rfl rfl (by kernel_rfl) (fun _ _ _ h => h) (Or.inl ⟨by rfl, ?_⟩) ?_ ?_
  rotate_left
  · intro w'
    go_simp
    with_reducible rfl
  rotate_left
  · simp only [Act.put, List.setIfInBounds_toArray, List.set_cons_zero, List.set_cons_succ, i64_w, i32_w]
    rfl
  refine join_ (σ := Nat × Nat) 1 #[true, true, true, true, true, true, true, true, true, false] (fun s_ => [(7, .string kw), (12, .slice (some ⟨s_.2, 0, none⟩) 2 2), (3, .pointer (some ⟨s_.1, 0, none⟩)), (8, .agg #[.int .i64 35, .string kw])]) (fun s_ w' => ((∀ i, w'.cell? ⟨w.heap.size, i, none⟩ = (#[.int .i64 n, .string id, .string tg, .string ac, .string sy, .int .i64 sd, .int .i64 q, .int .i64 p, .int .i64 al, .int .i64 st, .int .i64 en, .int .i64 rt, .int .i64 sh, .slice A l.length c] : Array Value)[i]?) ∧ (w.heap.size < w'.heap.size)) ∧ OutAt w w.heap.size #[.int .i64 n, .string id, .string tg, .string ac, .string sy, .int .i64 sd, .int .i64 q, .int .i64 p, .int .i64 al, .int .i64 st, .int .i64 en, .int .i64 rt, .int .i64 sh, .slice A l.length c] 24 s_.1 s_.2 [⟨35, kw⟩, ⟨11, id⟩] w') ?_ ?_
  rotate_left
  · intro hCont
    refine two_ (i := 2) (j := 8) (Ni := some 7) (Nj := some 3) #[true, true, true, false, true, true, true, false, false, false] #[true, true, false, false, true, true, true, false, true, false] rfl rfl rfl rfl (by kernel_rfl) (by decide) (by decide) (fun K hK => ?_) (fun K hK => ?_)
    · skip
      refine goes_ Tryz.func19 (by kernel_rfl) rfl #[.int .i64 n] (by rfl) rfl rfl (by simp only [List.map_toArray, List.map_cons, List.map_nil]; rfl) ?_
      with_reducible refine (HKd.out _).mono ?_
      rintro e w2 ⟨rfl, hd2⟩
      refine ⟨_, rfl, ?_⟩
      have HB2 := Aside0.mk hd2.below
      clear hd2
      refine hK.out _ _ ⟨(fun i => (HB2.out.cell (p := ⟨w.heap.size, i, none⟩) hHeld.2).trans (hHeld.1 i)), (Nat.lt_of_lt_of_le hHeld.2 HB2.out.size)⟩ (fun hHeld => ?_)
      clear hK K
      refine norm_ (a' := ?_) ?_ ?_
      rotate_left
      · show Act.put _ (some 7) _ = _
        simp only [Act.put, List.setIfInBounds_toArray, List.set_cons_zero, List.set_cons_succ, i64_w, i32_w]
        rfl
      refine pure_ (i := 3) (N := some 8) (v := ?_) (a' := ?_) #[true, true, true, true, true, true, true, false, false, false] rfl rfl (by kernel_rfl) (fun _ _ _ h => h) (Or.inl ⟨by rfl, ?_⟩) ?_ ?_
      rotate_left
      · intro w'
        go_simp
        with_reducible rfl
      rotate_left
      · simp only [Act.put, List.setIfInBounds_toArray, List.set_cons_zero, List.set_cons_succ, i64_w, i32_w]
        rfl
      refine two_ (i := 7) (j := 8) (Ni := some 12) (Nj := some 3) #[true, true, true, true, true, true, true, true, false, false] #[true, true, true, true, true, true, true, false, true, false] rfl rfl rfl rfl (by kernel_rfl) (by decide) (by decide) (fun K hK => ?_) (fun K hK => ?_)
      · skip
        refine value_ (w1 := ?_) (v := ?_) (by rfl) rfl ?_ ?_
        rotate_left 2
        · go_simp
          constructor
          · rfl
          · rfl
        refine hK.out _ _ ⟨(fun i => (((Below.refl _ _).alloc (Nat.le_refl _) _).cell (p := ⟨w.heap.size, i, none⟩) hHeld.2).trans (hHeld.1 i)), (Nat.lt_of_lt_of_eq (Nat.lt_succ_of_lt hHeld.2) (World.size_alloc _ _).symm)⟩ (fun hHeld => ?_)
        clear hK K
        refine norm_ (a' := ?_) ?_ ?_
        rotate_left
        · show Act.put _ (some 12) _ = _
          simp only [Act.put, List.setIfInBounds_toArray, List.set_cons_zero, List.set_cons_succ, i64_w, i32_w]
          rfl
        refine one_ (i := 8) (N := some 3) #[true, true, true, true, true, true, true, true, true, false] rfl rfl (by kernel_rfl) (by decide) (fun K hK => ?_)
        refine value_ (w1 := ?_) (v := ?_) (by rfl) rfl ?_ ?_
        rotate_left 2
        · go_simp
          constructor
          · rfl
          · rfl
        refine hK.out _ _ ⟨(fun i => (((Below.refl _ _).alloc (Nat.le_refl _) _).cell (p := ⟨w.heap.size, i, none⟩) hHeld.2).trans (hHeld.1 i)), (Nat.lt_of_lt_of_eq (Nat.lt_succ_of_lt hHeld.2) (World.size_alloc _ _).symm)⟩ (fun hHeld => ?_)
        clear hK K
        refine norm_ (a' := ?_) ?_ ?_
        rotate_left
        · show Act.put _ (some 3) _ = _
          simp only [Act.put, List.setIfInBounds_toArray, List.set_cons_zero, List.set_cons_succ, i64_w, i32_w]
          rfl
        exact norm_ (by simp only [putAll, Act.put, List.setIfInBounds_toArray, List.set_cons_zero, List.set_cons_succ]) (hCont (w2.heap.size + 1, w2.heap.size) _ ⟨hHeld, OutAt.mk1 (Nat.le_refl _) HX0.out HbL.out HLo.out ⟨HB2.out.os, HB2.out.tape, HB2.out.output, HB2.out.size, HB2.out.block⟩ _ _⟩)
      · skip
        refine value_ (w1 := ?_) (v := ?_) (by rfl) rfl ?_ ?_
        rotate_left 2
        · go_simp
          constructor
          · rfl
          · rfl
        refine hK.out _ _ ⟨(fun i => (((Below.refl _ _).alloc (Nat.le_refl _) _).cell (p := ⟨w.heap.size, i, none⟩) hHeld.2).trans (hHeld.1 i)), (Nat.lt_of_lt_of_eq (Nat.lt_succ_of_lt hHeld.2) (World.size_alloc _ _).symm)⟩ (fun hHeld => ?_)
        clear hK K
        refine norm_ (a' := ?_) ?_ ?_
        rotate_left
        · show Act.put _ (some 3) _ = _
          simp only [Act.put, List.setIfInBounds_toArray, List.set_cons_zero, List.set_cons_succ, i64_w, i32_w]
          rfl
        refine one_ (i := 7) (N := some 12) #[true, true, true, true, true, true, true, true, true, false] rfl rfl (by kernel_rfl) (by decide) (fun K hK => ?_)
        refine value_ (w1 := ?_) (v := ?_) (by rfl) rfl ?_ ?_
        rotate_left 2
        · go_simp
          constructor
          · rfl
          · rfl
        refine hK.out _ _ ⟨(fun i => (((Below.refl _ _).alloc (Nat.le_refl _) _).cell (p := ⟨w.heap.size, i, none⟩) hHeld.2).trans (hHeld.1 i)), (Nat.lt_of_lt_of_eq (Nat.lt_succ_of_lt hHeld.2) (World.size_alloc _ _).symm)⟩ (fun hHeld => ?_)
        clear hK K
        refine norm_ (a' := ?_) ?_ ?_
        rotate_left
        · show Act.put _ (some 12) _ = _
          simp only [Act.put, List.setIfInBounds_toArray, List.set_cons_zero, List.set_cons_succ, i64_w, i32_w]
          rfl
        exact norm_ (by simp only [putAll, Act.put, List.setIfInBounds_toArray, List.set_cons_zero, List.set_cons_succ]) (hCont (w2.heap.size, w2.heap.size + 1) _ ⟨hHeld, OutAt.mk2 (Nat.le_refl _) HX0.out HbL.out HLo.out ⟨HB2.out.os, HB2.out.tape, HB2.out.output, HB2.out.size, HB2.out.block⟩ _ _⟩)
    · skip
      refine value_ (w1 := ?_) (v := ?_) (by rfl) rfl ?_ ?_
      rotate_left 2
      · go_simp
        constructor
        · rfl
        · rfl
      refine hK.out _ _ ⟨(fun i => (((Below.refl _ _).alloc (Nat.le_refl _) _).cell (p := ⟨w.heap.size, i, none⟩) hHeld.2).trans (hHeld.1 i)), (Nat.lt_of_lt_of_eq (Nat.lt_succ_of_lt hHeld.2) (World.size_alloc _ _).symm)⟩ (fun hHeld => ?_)
      clear hK K
      refine norm_ (a' := ?_) ?_ ?_
      rotate_left
      · show Act.put _ (some 3) _ = _
        simp only [Act.put, List.setIfInBounds_toArray, List.set_cons_zero, List.set_cons_succ, i64_w, i32_w]
        rfl
      refine one_ (i := 2) (N := some 7) #[true, true, true, false, true, true, true, false, true, false] rfl rfl (by kernel_rfl) (by decide) (fun K hK => ?_)
      refine goes_ Tryz.func19 (by kernel_rfl) rfl #[.int .i64 n] (by rfl) rfl rfl (by simp only [List.map_toArray, List.map_cons, List.map_nil]; rfl) ?_
      with_reducible refine (HKd.out _).mono ?_
      rintro e w2 ⟨rfl, hd2⟩
      refine ⟨_, rfl, ?_⟩
      have HB2 := Aside0.mk hd2.below
      clear hd2
      refine hK.out _ _ ⟨(fun i => (HB2.out.cell (p := ⟨w.heap.size, i, none⟩) hHeld.2).trans (hHeld.1 i)), (Nat.lt_of_lt_of_le hHeld.2 HB2.out.size)⟩ (fun hHeld => ?_)
      clear hK K
      refine norm_ (a' := ?_) ?_ ?_
      rotate_left
      · show Act.put _ (some 7) _ = _
        simp only [Act.put, List.setIfInBounds_toArray, List.set_cons_zero, List.set_cons_succ, i64_w, i32_w]
        rfl
      refine pure_ (i := 3) (N := some 8) (v := ?_) (a' := ?_) #[true, true, true, true, true, true, true, false, true, false] rfl rfl (by kernel_rfl) (fun _ _ _ h => h) (Or.inl ⟨by rfl, ?_⟩) ?_ ?_
      rotate_left
      · intro w'
        go_simp
        with_reducible rfl
      rotate_left
      · simp only [Act.put, List.setIfInBounds_toArray, List.set_cons_zero, List.set_cons_succ, i64_w, i32_w]
        rfl
      refine one_ (i := 7) (N := some 12) #[true, true, true, true, true, true, true, true, true, false] rfl rfl (by kernel_rfl) (by decide) (fun K hK => ?_)
      refine value_ (w1 := ?_) (v := ?_) (by rfl) rfl ?_ ?_
      rotate_left 2
      · go_simp
        constructor
        · rfl
        · rfl
      refine hK.out _ _ ⟨(fun i => (((Below.refl _ _).alloc (Nat.le_refl _) _).cell (p := ⟨w.heap.size, i, none⟩) hHeld.2).trans (hHeld.1 i)), (Nat.lt_of_lt_of_eq (Nat.lt_succ_of_lt hHeld.2) (World.size_alloc _ _).symm)⟩ (fun hHeld => ?_)
      clear hK K
      refine norm_ (a' := ?_) ?_ ?_
      rotate_left
      · show Act.put _ (some 12) _ = _
        simp only [Act.put, List.setIfInBounds_toArray, List.set_cons_zero, List.set_cons_succ, i64_w, i32_w]
        rfl
      exact norm_ (by simp only [putAll, Act.put, List.setIfInBounds_toArray, List.set_cons_zero, List.set_cons_succ]) (hCont (w.heap.size + 1, w2.heap.size) _ ⟨hHeld, (by have q := OutAt.mk3 (Nat.le_refl _) HX0.out HbL.out HLo.out ⟨HB2.out.os, HB2.out.tape, HB2.out.output, HB2.out.size, HB2.out.block⟩ (⟨35, kw⟩ : S74) ⟨11, id⟩; rw [World.size_alloc] at q; exact q)⟩)
  rintro ⟨g, qb⟩ w4 ⟨hHeld, hO⟩
  have HO := Aside0.mk hO
  have c4 := blk_cell hO.gz 0
  have z4 := blk_frozen hO.gz 0
  clear hO
  refine norm_ (a' := ?_) ?_ ?_
  rotate_left
  · simp only [putAll, Act.put, List.setIfInBounds_toArray, List.set_cons_zero, List.set_cons_succ]
    rfl
  refine last_ (i := 9) (N := none) #[true, true, true, true, true, true, true, true, true, true] rfl rfl (by kernel_rfl) (by decide) (fun K hK => ?_)
  refine skip_ (w1 := ?_) (by rfl) rfl ?_ ?_
  rotate_left
  · go_simp
    rfl
  refine hK.out _ _ ?_
  clear hK K
  refine done_ (by kernel_rfl) ?_
  have H2 := Aside0.mk HO.out.fill
  have hc := fun i => blk_cell H2.out.box i
  go_wp2_with (first
        | (go_at_call 44; ((with_reducible refine (H2.out.put 41 (.iface 9 (.string tg)) tg (fun X _ => text_str tg X) (by simp)).mono ?_)); rintro en w13 ⟨rfl, h⟩; have H3 := Aside0.mk h; clear h hc; have hc := fun i => blk_cell H3.out.box i)
        | (go_at_call 44; ((with_reducible refine (H3.out.put 38 (.iface 3 (.int .i64 q)) (digitsB q) (fun X hX => text_int q X _ (HIt.out X q hX (HR_q.out))) (by simp)).mono ?_)); rintro en w14 ⟨rfl, h⟩; have H4 := Aside0.mk h; clear h hc; have hc := fun i => blk_cell H4.out.box i)
        | (go_at_call 44; ((with_reducible refine (H4.out.put 44 (.iface 3 (.int .i64 p)) (digitsB p) (fun X hX => text_int p X _ (HIt.out X p hX (HR_p.out))) (by simp)).mono ?_)); rintro en w15 ⟨rfl, h⟩; have H5 := Aside0.mk h; clear h hc; have hc := fun i => blk_cell H5.out.box i)
        | (go_at_call 44; ((with_reducible refine (H5.out.put 5003 (.iface 3 (.int .i64 en)) (digitsB en) (fun X hX => text_int en X _ (HIt.out X en hX (HR_en.out))) (by simp)).mono ?_)); rintro en w16 ⟨rfl, h⟩; have H6 := Aside0.mk h; clear h hc; have hc := fun i => blk_cell H6.out.box i; obtain ⟨A9, c9, hc9, hR9⟩ := H6.out.sheet.row; have HS9 := Aside0.mk hR9; clear hR9))
  go_ret
  exact FieldsTo.mk_ HS9.out rfl (H6.out.low.below (fun _ h => h) (Nat.le_refl _)) 
set_option maxRecDepth 100000 in
set_option maxHeartbeats 8000000 in
theorem fields_x (w : World) (hT_ : Aside0 (Tabs_ w)) (n sd q p al st en rt sh : Int) (id tg ac sy kw nb : ByteArray) (A : Option Addr) (c : Nat) (l : List Int) (HKd : Aside0 (∀ X, Calls Tryz.prog 19 #[.int .i64 n] X fun e w' => e = .returned (.string kw) ∧ Drawn0 X w')) (t1 : (n == 1) = false) (t2 : (n == 3) = false) :
    Calls Tryz.prog 16 #[.agg #[.int .i64 n, .string id, .string tg, .string ac, .string sy, .int .i64 sd, .int .i64 q, .int .i64 p, .int .i64 al, .int .i64 st, .int .i64 en, .int .i64 rt, .int .i64 sh, .slice A l.length c]] w fun e w' => FieldsTo [⟨35, kw⟩, ⟨11, id⟩, ⟨41, tg⟩] w e w' := by
  have HX0 := Aside0.mk (blk_new w (.cells #[.int .i64 n, .string id, .string tg, .string ac, .string sy, .int .i64 sd, .int .i64 q, .int .i64 p, .int .i64 al, .int .i64 st, .int .i64 en, .int .i64 rt, .int .i64 sh, .slice A l.length c] 24))
  have HbL : Aside0 (w.heap.size < (w.alloc (.cells #[.int .i64 n, .string id, .string tg, .string ac, .string sy, .int .i64 sd, .int .i64 q, .int .i64 p, .int .i64 al, .int .i64 st, .int .i64 en, .int .i64 rt, .int .i64 sh, .slice A l.length c] 24)).heap.size) := ⟨by rw [World.size_alloc]; omega⟩
  have HLo : Aside0 (Below w.heap.size w (w.alloc (.cells #[.int .i64 n, .string id, .string tg, .string ac, .string sy, .int .i64 sd, .int .i64 q, .int .i64 p, .int .i64 al, .int .i64 st, .int .i64 en, .int .i64 rt, .int .i64 sh, .slice A l.length c] 24))) := ⟨(Below.refl _ _).alloc (Nat.le_refl _) _⟩
  have HIt : Aside0 (∀ X x, Turned (fun k => w.heap.size ≤ k) w X → 0 ≤ x ∧ x ≤ 9223372036854775807 → Calls Tryz.prog 67 #[.int .i64 x] X fun e w' => e = .returned (.string (digitsB x)) ∧ Below X.heap.size X w') := ⟨fun X x hX hx => strconv_Itoa.calls x _ X ⟨hT_.out.below (hX.below (fun _ h => h) (Nat.le_refl _))⟩ (by unfold strconv_Itoa.f; rw [if_pos hx])⟩
  have hmf : ∀ (fn : Fn) (first cap : Array Value) (w : World), (Instr.makeFunc fn first cap).run Tryz.prog w = .ok (.func fn first cap) w := fun _ _ _ _ => rfl
  have hcs : Tryz.prog.concrete 9 = true := by kernel_rfl
  have hci : Tryz.prog.concrete 3 = true := by kernel_rfl
  have hcl : Tryz.prog.concrete 22 = true := by kernel_rfl
  go_enter Tryz.func16, Tryz.ntmps16
  go_wp2
  refine start_ (n := 10) (S := fun w' => (∀ i, w'.cell? ⟨w.heap.size, i, none⟩ = (#[.int .i64 n, .string id, .string tg, .string ac, .string sy, .int .i64 sd, .int .i64 q, .int .i64 p, .int .i64 al, .int .i64 st, .int .i64 en, .int .i64 rt, .int .i64 sh, .slice A l.length c] : Array Value)[i]?) ∧ (w.heap.size < w'.heap.size)) (ds := [9]) #[false, false, false, false, false, false, false, false, false, false] (by kernel_rfl) rfl rfl ⟨(fun i => blk_cell HX0.out i), HbL.out⟩ (fun hHeld => ?_)
  refine pure_ (i := 0) (N := some 5) (v := ?_) (a' := ?_) #[true, false, false, false, false, false, false, false, false, false] rfl rfl (by kernel_rfl) (fun _ _ _ h => h) (Or.inl ⟨by rfl, ?_⟩) ?_ ?_
  rotate_left
  · intro w'
    go_simp
    with_reducible rfl
  rotate_left
  · simp only [Act.put, List.setIfInBounds_toArray, List.set_cons_zero, List.set_cons_succ, i64_w, i32_w]
    rfl
  refine pure_ (i := 4) (N := some 9) (v := ?_) (a' := ?_) #[true, false, false, false, true, false, false, false, false, false] rfl rfl (by kernel_rfl) (fun _ _ _ h => h) (Or.inl ⟨by rfl, ?_⟩) ?_ ?_
  rotate_left
  · intro w'
    go_simp
    with_reducible rfl
  rotate_left
  · simp only [Act.put, List.setIfInBounds_toArray, List.set_cons_zero, List.set_cons_succ, i64_w, i32_w]
    rfl
  refine take_ (i := 1) (N := some 6) (v := ?_) (a' := ?_) #[true, true, false, false, true, false, false, false, false, false] rfl rfl (by kernel_rfl) (fun _ _ _ h => h) (Or.inl ⟨by rfl, ?_⟩) hHeld ?_ ?_
  rotate_left
  · rintro w' ⟨s0, s1⟩
    go_simp
    with_reducible rfl
  rotate_left
  · simp only [Act.put, List.setIfInBounds_toArray, List.set_cons_zero, List.set_cons_succ, i64_w, i32_w]
    rfl
  refine take_ (i := 5) (N := some 10) (v := ?_) (a' := ?_) #[true, true, false, false, true, true, false, false, false, false] rfl rfl (by kernel_rfl) (fun _ _ _ h => h) (Or.inl ⟨by rfl, ?_⟩) hHeld ?_ ?_
  rotate_left
  · rintro w' ⟨s0, s1⟩
    go_simp
    with_reducible rfl
  rotate_left
  · simp only [Act.put, List.setIfInBounds_toArray, List.set_cons_zero, List.set_cons_succ, i64_w, i32_w]
    rfl
  refine pure_ (i := 6) (N := some 11) (v := ?_) (a' := ?_) #[true, true, false, false, true, true, true, false, false, false] rfl rfl (by kernel_rfl) (fun _ _ _ h => h) (Or.inl ⟨by rfl, ?_⟩) ?_ ?_
  rotate_left
  · intro w'
    go_simp
    with_reducible rfl
  rotate_left
  · simp only [Act.put, List.setIfInBounds_toArray, List.set_cons_zero, List.set_cons_succ, i64_w, i32_w]
    rfl
  refine join_ (σ := Nat × Nat) 1 #[true, true, true, true, true, true, true, true, true, false] (fun s_ => [(7, .string kw), (12, .slice (some ⟨s_.2, 0, none⟩) 2 2), (3, .pointer (some ⟨s_.1, 0, none⟩)), (8, .agg #[.int .i64 35, .string kw])]) (fun s_ w' => ((∀ i, w'.cell? ⟨w.heap.size, i, none⟩ = (#[.int .i64 n, .string id, .string tg, .string ac, .string sy, .int .i64 sd, .int .i64 q, .int .i64 p, .int .i64 al, .int .i64 st, .int .i64 en, .int .i64 rt, .int .i64 sh, .slice A l.length c] : Array Value)[i]?) ∧ (w.heap.size < w'.heap.size)) ∧ OutAt w w.heap.size #[.int .i64 n, .string id, .string tg, .string ac, .string sy, .int .i64 sd, .int .i64 q, .int .i64 p, .int .i64 al, .int .i64 st, .int .i64 en, .int .i64 rt, .int .i64 sh, .slice A l.length c] 24 s_.1 s_.2 [⟨35, kw⟩, ⟨11, id⟩] w') ?_ ?_
  rotate_left
  · intro hCont
    refine two_ (i := 2) (j := 8) (Ni := some 7) (Nj := some 3) #[true, true, true, false, true, true, true, false, false, false] #[true, true, false, false, true, true, true, false, true, false] rfl rfl rfl rfl (by kernel_rfl) (by decide) (by decide) (fun K hK => ?_) (fun K hK => ?_)
    · skip
      refine goes_ Tryz.func19 (by kernel_rfl) rfl #[.int .i64 n] (by rfl) rfl rfl (by simp only [List.map_toArray, List.map_cons, List.map_nil]; rfl) ?_
      with_reducible refine (HKd.out _).mono ?_
      rintro e w2 ⟨rfl, hd2⟩
      refine ⟨_, rfl, ?_⟩
      have HB2 := Aside0.mk hd2.below
      clear hd2
      refine hK.out _ _ ⟨(fun i => (HB2.out.cell (p := ⟨w.heap.size, i, none⟩) hHeld.2).trans (hHeld.1 i)), (Nat.lt_of_lt_of_le hHeld.2 HB2.out.size)⟩ (fun hHeld => ?_)
      clear hK K
      refine norm_ (a' := ?_) ?_ ?_
      rotate_left
      · show Act.put _ (some 7) _ = _
        simp only [Act.put, List.setIfInBounds_toArray, List.set_cons_zero, List.set_cons_succ, i64_w, i32_w]
        rfl
      refine pure_ (i := 3) (N := some 8) (v := ?_) (a' := ?_) #[true, true, true, true, true, true, true, false, false, false] rfl rfl (by kernel_rfl) (fun _ _ _ h => h) (Or.inl ⟨by rfl, ?_⟩) ?_ ?_
      rotate_left
      · intro w'
        go_simp
        with_reducible rfl
      rotate_left
      · simp only [Act.put, List.setIfInBounds_toArray, List.set_cons_zero, List.set_cons_succ, i64_w, i32_w]
        rfl
      refine two_ (i := 7) (j := 8) (Ni := some 12) (Nj := some 3) #[true, true, true, true, true, true, true, true, false, false] #[true, true, true, true, true, true, true, false, true, false] rfl rfl rfl rfl (by kernel_rfl) (by decide) (by decide) (fun K hK => ?_) (fun K hK => ?_)
      · skip
        refine value_ (w1 := ?_) (v := ?_) (by rfl) rfl ?_ ?_
        rotate_left 2
        · go_simp
          constructor
          · rfl
          · rfl
        refine hK.out _ _ ⟨(fun i => (((Below.refl _ _).alloc (Nat.le_refl _) _).cell (p := ⟨w.heap.size, i, none⟩) hHeld.2).trans (hHeld.1 i)), (Nat.lt_of_lt_of_eq (Nat.lt_succ_of_lt hHeld.2) (World.size_alloc _ _).symm)⟩ (fun hHeld => ?_)
        clear hK K
        refine norm_ (a' := ?_) ?_ ?_
        rotate_left
        · show Act.put _ (some 12) _ = _
          simp only [Act.put, List.setIfInBounds_toArray, List.set_cons_zero, List.set_cons_succ, i64_w, i32_w]
          rfl
        refine one_ (i := 8) (N := some 3) #[true, true, true, true, true, true, true, true, true, false] rfl rfl (by kernel_rfl) (by decide) (fun K hK => ?_)
        refine value_ (w1 := ?_) (v := ?_) (by rfl) rfl ?_ ?_
        rotate_left 2
        · go_simp
          constructor
          · rfl
          · rfl
        refine hK.out _ _ ⟨(fun i => (((Below.refl _ _).alloc (Nat.le_refl _) _).cell (p := ⟨w.heap.size, i, none⟩) hHeld.2).trans (hHeld.1 i)), (Nat.lt_of_lt_of_eq (Nat.lt_succ_of_lt hHeld.2) (World.size_alloc _ _).symm)⟩ (fun hHeld => ?_)
        clear hK K
        refine norm_ (a' := ?_) ?_ ?_
        rotate_left
        · show Act.put _ (some 3) _ = _
          simp only [Act.put, List.setIfInBounds_toArray, List.set_cons_zero, List.set_cons_succ, i64_w, i32_w]
          rfl
        exact norm_ (by simp only [putAll, Act.put, List.setIfInBounds_toArray, List.set_cons_zero, List.set_cons_succ]) (hCont (w2.heap.size + 1, w2.heap.size) _ ⟨hHeld, OutAt.mk1 (Nat.le_refl _) HX0.out HbL.out HLo.out ⟨HB2.out.os, HB2.out.tape, HB2.out.output, HB2.out.size, HB2.out.block⟩ _ _⟩)
      · skip
        refine value_ (w1 := ?_) (v := ?_) (by rfl) rfl ?_ ?_
        rotate_left 2
        · go_simp
          constructor
          · rfl
          · rfl
        refine hK.out _ _ ⟨(fun i => (((Below.refl _ _).alloc (Nat.le_refl _) _).cell (p := ⟨w.heap.size, i, none⟩) hHeld.2).trans (hHeld.1 i)), (Nat.lt_of_lt_of_eq (Nat.lt_succ_of_lt hHeld.2) (World.size_alloc _ _).symm)⟩ (fun hHeld => ?_)
        clear hK K
        refine norm_ (a' := ?_) ?_ ?_
        rotate_left
        · show Act.put _ (some 3) _ = _
          simp only [Act.put, List.setIfInBounds_toArray, List.set_cons_zero, List.set_cons_succ, i64_w, i32_w]
          rfl
        refine one_ (i := 7) (N := some 12) #[true, true, true, true, true, true, true, true, true, false] rfl rfl (by kernel_rfl) (by decide) (fun K hK => ?_)
        refine value_ (w1 := ?_) (v := ?_) (by rfl) rfl ?_ ?_
        rotate_left 2
        · go_simp
          constructor
          · rfl
          · rfl
        refine hK.out _ _ ⟨(fun i => (((Below.refl _ _).alloc (Nat.le_refl _) _).cell (p := ⟨w.heap.size, i, none⟩) hHeld.2).trans (hHeld.1 i)), (Nat.lt_of_lt_of_eq (Nat.lt_succ_of_lt hHeld.2) (World.size_alloc _ _).symm)⟩ (fun hHeld => ?_)
        clear hK K
        refine norm_ (a' := ?_) ?_ ?_
        rotate_left
        · show Act.put _ (some 12) _ = _
          simp only [Act.put, List.setIfInBounds_toArray, List.set_cons_zero, List.set_cons_succ, i64_w, i32_w]
          rfl
        exact norm_ (by simp only [putAll, Act.put, List.setIfInBounds_toArray, List.set_cons_zero, List.set_cons_succ]) (hCont (w2.heap.size, w2.heap.size + 1) _ ⟨hHeld, OutAt.mk2 (Nat.le_refl _) HX0.out HbL.out HLo.out ⟨HB2.out.os, HB2.out.tape, HB2.out.output, HB2.out.size, HB2.out.block⟩ _ _⟩)
    · skip
      refine value_ (w1 := ?_) (v := ?_) (by rfl) rfl ?_ ?_
      rotate_left 2
      · go_simp
        constructor
        · rfl
        · rfl
      refine hK.out _ _ ⟨(fun i => (((Below.refl _ _).alloc (Nat.le_refl _) _).cell (p := ⟨w.heap.size, i, none⟩) hHeld.2).trans (hHeld.1 i)), (Nat.lt_of_lt_of_eq (Nat.lt_succ_of_lt hHeld.2) (World.size_alloc _ _).symm)⟩ (fun hHeld => ?_)
      clear hK K
      refine norm_ (a' := ?_) ?_ ?_
      rotate_left
      · show Act.put _ (some 3) _ = _
        simp only [Act.put, List.setIfInBounds_toArray, List.set_cons_zero, List.set_cons_succ, i64_w, i32_w]
        rfl
      refine one_ (i := 2) (N := some 7) #[true, true, true, false, true, true, true, false, true, false] rfl rfl (by kernel_rfl) (by decide) (fun K hK => ?_)
      refine goes_ Tryz.func19 (by kernel_rfl) rfl #[.int .i64 n] (by rfl) rfl rfl (by simp only [List.map_toArray, List.map_cons, List.map_nil]; rfl) ?_
      with_reducible refine (HKd.out _).mono ?_
      rintro e w2 ⟨rfl, hd2⟩
      refine ⟨_, rfl, ?_⟩
      have HB2 := Aside0.mk hd2.below
      clear hd2
      refine hK.out _ _ ⟨(fun i => (HB2.out.cell (p := ⟨w.heap.size, i, none⟩) hHeld.2).trans (hHeld.1 i)), (Nat.lt_of_lt_of_le hHeld.2 HB2.out.size)⟩ (fun hHeld => ?_)
      clear hK K
      refine norm_ (a' := ?_) ?_ ?_
      rotate_left
      · show Act.put _ (some 7) _ = _
        simp only [Act.put, List.setIfInBounds_toArray, List.set_cons_zero, List.set_cons_succ, i64_w, i32_w]
        rfl
      refine pure_ (i := 3) (N := some 8) (v := ?_) (a' := ?_) #[true, true, true, true, true, true, true, false, true, false] rfl rfl (by kernel_rfl) (fun _ _ _ h => h) (Or.inl ⟨by rfl, ?_⟩) ?_ ?_
      rotate_left
      · intro w'
        go_simp
        with_reducible rfl
      rotate_left
      · simp only [Act.put, List.setIfInBounds_toArray, List.set_cons_zero, List.set_cons_succ, i64_w, i32_w]
        rfl
      refine one_ (i := 7) (N := some 12) #[true, true, true, true, true, true, true, true, true, false] rfl rfl (by kernel_rfl) (by decide) (fun K hK => ?_)
      refine value_ (w1 := ?_) (v := ?_) (by rfl) rfl ?_ ?_
      rotate_left 2
      · go_simp
        constructor
        · rfl
        · rfl
      refine hK.out _ _ ⟨(fun i => (((Below.refl _ _).alloc (Nat.le_refl _) _).cell (p := ⟨w.heap.size, i, none⟩) hHeld.2).trans (hHeld.1 i)), (Nat.lt_of_lt_of_eq (Nat.lt_succ_of_lt hHeld.2) (World.size_alloc _ _).symm)⟩ (fun hHeld => ?_)
      clear hK K
      refine norm_ (a' := ?_) ?_ ?_
      rotate_left
      · show Act.put _ (some 12) _ = _
        simp only [Act.put, List.setIfInBounds_toArray, List.set_cons_zero, List.set_cons_succ, i64_w, i32_w]
        rfl
      exact norm_ (by simp only [putAll, Act.put, List.setIfInBounds_toArray, List.set_cons_zero, List.set_cons_succ]) (hCont (w.heap.size + 1, w2.heap.size) _ ⟨hHeld, (by have q := OutAt.mk3 (Nat.le_refl _) HX0.out HbL.out HLo.out ⟨HB2.out.os, HB2.out.tape, HB2.out.output, HB2.out.size, HB2.out.block⟩ (⟨35, kw⟩ : S74) ⟨11, id⟩; rw [World.size_alloc] at q; exact q)⟩)
  rintro ⟨g, qb⟩ w4 ⟨hHeld, hO⟩
  have HO := Aside0.mk hO
  have c4 := blk_cell hO.gz 0
  have z4 := blk_frozen hO.gz 0
  clear hO
  refine norm_ (a' := ?_) ?_ ?_
  rotate_left
  · simp only [putAll, Act.put, List.setIfInBounds_toArray, List.set_cons_zero, List.set_cons_succ]
    rfl
  refine last_ (i := 9) (N := none) #[true, true, true, true, true, true, true, true, true, true] rfl rfl (by kernel_rfl) (by decide) (fun K hK => ?_)
  refine skip_ (w1 := ?_) (by rfl) rfl ?_ ?_
  rotate_left
  · go_simp
    rfl
  refine hK.out _ _ ?_
  clear hK K
  refine done_ (by kernel_rfl) ?_
  have H2 := Aside0.mk HO.out.fill
  have hc := fun i => blk_cell H2.out.box i
  go_wp2_with (first
        | (go_at_call 44; ((with_reducible refine (H2.out.put 41 (.iface 9 (.string tg)) tg (fun X _ => text_str tg X) (by simp)).mono ?_)); rintro en w13 ⟨rfl, h⟩; have H3 := Aside0.mk h; clear h hc; have hc := fun i => blk_cell H3.out.box i; obtain ⟨A9, c9, hc9, hR9⟩ := H3.out.sheet.row; have HS9 := Aside0.mk hR9; clear hR9))
  go_ret
  exact FieldsTo.mk_ HS9.out rfl (H3.out.low.below (fun _ h => h) (Nat.le_refl _))
structure AskV where
  f0 : Int
  f1 : ByteArray
  f2 : ByteArray
  f3 : ByteArray
  f4 : ByteArray
  f5 : Int
  f6 : Int
  f7 : Int
  f8 : Int
  f9 : Int
  f10 : Int
  f11 : Int
  f12 : Int
  f13 : List Int
def i63 (x : Int) : Prop := 0 ≤ x ∧ x ≤ 9223372036854775807
instance (x : Int) : Decidable (i63 x) := inferInstanceAs (Decidable (_ ∧ _))
def askKindW (n : Int) : ByteArray := if n = 1 then ⟨#[68]⟩ else if n = 2 then ⟨#[70]⟩ else if n = 3 then ⟨#[71]⟩ else if n = 4 then ⟨#[85, 80]⟩ else if n = 5 then ⟨#[85, 82]⟩ else ⟨#[]⟩
theorem kindOf_f (n : Int) : ask_kindOf.f n = some (askKindW n) := by
  unfold ask_kindOf.f askKindW
  repeat' split
  all_goals rfl
def numsB (l : List Int) : ByteArray := joinB (l.map digitsB) ⟨#[44]⟩
def numsI (l : List Int) : Prop := l.length ≤ 1000 ∧ ∀ x ∈ l, i63 x
instance (l : List Int) : Decidable (numsI l) := inferInstanceAs (Decidable (_ ∧ _))
def askF (a : AskV) : List S74 :=
  if a.f0 = 1 then [⟨35, askKindW a.f0⟩, ⟨11, a.f1⟩, ⟨1, a.f3⟩, ⟨55, a.f4⟩, ⟨54, digitsB a.f5⟩, ⟨38, digitsB a.f6⟩, ⟨44, digitsB a.f7⟩, ⟨5001, digitsB a.f8⟩, ⟨5002, digitsB a.f9⟩, ⟨5003, digitsB a.f10⟩] ++
    (if a.f8 = 2 then [⟨5006, numsB a.f13⟩] else if a.f8 = 3 then [⟨5004, digitsB a.f11⟩] else if a.f8 = 4 then [⟨5005, digitsB a.f12⟩] else [])
  else if a.f0 = 3 then [⟨35, askKindW a.f0⟩, ⟨11, a.f1⟩, ⟨41, a.f2⟩, ⟨38, digitsB a.f6⟩, ⟨44, digitsB a.f7⟩, ⟨5003, digitsB a.f10⟩]
  else [⟨35, askKindW a.f0⟩, ⟨11, a.f1⟩, ⟨41, a.f2⟩]
theorem join_len : ∀ (l : List Int), (∀ x ∈ l, i63 x) → (Lib.join ((l.map digitsB).map (·.data.toList)) [44]).length ≤ 21 * l.length
  | [], _ => by simp [Lib.join]
  | [x], h => by
    have h1 := digitsB_20 x (h x (by simp)).2
    have e : (Lib.join (([x].map digitsB).map (·.data.toList)) [44]) = (digitsB x).data.toList := by simp [Lib.join]
    rw [e, size_list]; simp; omega
  | x :: y :: r, h => by
    have h1 := digitsB_20 x (h x (by simp)).2
    have ih := join_len (y :: r) (fun z hz => h z (by simp only [List.mem_cons] at hz ⊢; exact .inr hz))
    have e : (Lib.join (((x :: y :: r).map digitsB).map (·.data.toList)) [44]) = (digitsB x).data.toList ++ [44] ++ (Lib.join (((y :: r).map digitsB).map (·.data.toList)) [44]) := by simp [Lib.join]
    rw [e]
    simp only [List.length_append, List.length_cons, List.length_nil, size_list] at ih ⊢
    omega
theorem numbers_loop (l : List Int) (hl : numsI l) : ∀ n i : Nat, i + n = l.length → ask_numbers.l0 (n + 1) ((l.take i).map digitsB) l (l.length : Int) (i : Int) = some (numsB l) := by
  obtain ⟨hl1, hl2⟩ := hl
  intro n
  induction n with
  | zero =>
    intro i hi
    have e : l.take i = l := List.take_of_length_le (by omega)
    rw [e, ask_numbers.l0, if_neg (by omega)]
    have hj := join_len l hl2
    have hf : strings_Join.f (l.map digitsB) ⟨#[44]⟩ = some (numsB l) := by
      unfold strings_Join.f
      rw [if_pos ⟨by rw [List.length_map]; omega, by show (Lib.join ((l.map digitsB).map (·.data.toList)) [44]).length ≤ _; omega⟩]; rfl
    rw [hf]; rfl
  | succ n ih =>
    intro i hi
    have hr : rd l (i : Int) = l[i] := by unfold rd; rw [Int.toNat_natCast, List.getD_eq_getElem?_getD, List.getElem?_eq_getElem (by omega)]; rfl
    have hx := hl2 l[i] (List.getElem_mem (by omega))
    have hw : wrap64 ((i : Int) + 1) = ((i + 1 : Nat) : Int) := by rw [w64 (by omega) (by omega)]; omega
    have ht : (l.take (i + 1)).map digitsB = (l.take i).map digitsB ++ [digitsB l[i]] := by rw [List.take_succ_eq_append_getElem (by omega), List.map_append, List.map_cons, List.map_nil]
    have hlen : ((l.take i).map digitsB).length = i := by simp; omega
    have hI : strconv_Itoa.f l[i] = some (digitsB l[i]) := by unfold strconv_Itoa.f; rw [if_pos ⟨hx.1, hx.2⟩]
    have h2 := ih (i + 1) (by omega)
    rw [ht] at h2
    rw [ask_numbers.l0]
    simp only [hr, hI, Option.bind_some, hlen, hw]
    simp only [h2]
    first
      | (rw [if_pos (by omega), if_pos (by omega), if_pos (by omega), if_pos (by omega)]; done)
      | (repeat (first | rw [if_pos (by omega)] | rw [if_pos (by simp only [hlen]; omega)]))
theorem numbers_f (l : List Int) (hl : numsI l) : ask_numbers.f (l.length + 1) l = some (numsB l) := by
  unfold ask_numbers.f
  exact numbers_loop l hl l.length 0 (by omega)
def ask_fields.f (a0 : Int) (a1 a2 a3 a4 : ByteArray) (a5 a6 a7 a8 a9 a10 a11 a12 : Int) (l : List Int) : Option (List S74) :=
  if (i63 a5 ∧ i63 a6 ∧ i63 a7 ∧ i63 a8 ∧ i63 a9 ∧ i63 a10 ∧ i63 a11 ∧ i63 a12) ∧ numsI l then some (askF ⟨a0, a1, a2, a3, a4, a5, a6, a7, a8, a9, a10, a11, a12, l⟩) else none
theorem ask_fields.calls (a0 : Int) (a1 a2 a3 a4 : ByteArray) (a5 a6 a7 a8 a9 a10 a11 a12 : Int) (A0_13 : Option Addr) (c0_13 : Nat) (l : List Int) (r : List S74) (w : World) (hT_ : Aside0 (Tabs_ w)) (hr0_13 : Kd.C (Kd.int .i64) w A0_13 l.length l) (hc0_13 : l.length ≤ c0_13) (h : ask_fields.f a0 a1 a2 a3 a4 a5 a6 a7 a8 a9 a10 a11 a12 l = some r) :
    Calls Tryz.prog 16 #[.agg #[.int .i64 a0, .string a1, .string a2, .string a3, .string a4, .int .i64 a5, .int .i64 a6, .int .i64 a7, .int .i64 a8, .int .i64 a9, .int .i64 a10, .int .i64 a11, .int .i64 a12, .slice A0_13 l.length c0_13]] w fun e w' => ∃ v_ : Value, e = .returned (v_) ∧ Kd.R k74 74 w' w.heap.size (fun _ => True) v_ r ∧ Below w.heap.size w w' := by
  unfold ask_fields.f at h
  by_cases c : (i63 a5 ∧ i63 a6 ∧ i63 a7 ∧ i63 a8 ∧ i63 a9 ∧ i63 a10 ∧ i63 a11 ∧ i63 a12) ∧ numsI l
  · rw [if_pos c] at h
    obtain rfl := Option.some.inj h
    obtain ⟨⟨i5, i6, i7, i8, i9, i10, i11, i12⟩, hn⟩ := c
    have HKd : Aside0 (∀ X, Calls Tryz.prog 19 #[.int .i64 a0] X fun e w' => e = .returned (.string (askKindW a0)) ∧ Drawn0 X w') := ⟨fun X => ask_kindOf.calls _ _ X (kindOf_f a0)⟩
    have HNb : Aside0 (∀ X, Turned (fun k => w.heap.size ≤ k) w X → Calls Tryz.prog 69 #[.slice A0_13 l.length c0_13] X fun e w' => e = .returned (.string (numsB l)) ∧ Below X.heap.size X w') := ⟨fun X hX =>
      ask_numbers.calls _ A0_13 c0_13 l _ X ⟨hT_.out.below (hX.below (fun _ h => h) (Nat.le_refl _))⟩ (Kd.C_below hr0_13 (hX.below (fun _ h => h) (Nat.le_refl _))) hc0_13 (numbers_f l hn)⟩
    unfold askF
    simp only
    by_cases k1 : a0 = 1
    · rw [if_pos k1]
      by_cases b2 : a8 = 2
      · rw [if_pos b2]
        exact fields_1_2 w hT_ a0 a5 a6 a7 a8 a9 a10 a11 a12 a1 a2 a3 a4 _ _ A0_13 c0_13 l HKd (beq_iff_eq.2 k1) (beq_iff_eq.2 b2) i5 i6 i7 i8 i9 i10 HNb
      rw [if_neg b2]
      by_cases b3 : a8 = 3
      · rw [if_pos b3]
        exact fields_1_3 w hT_ a0 a5 a6 a7 a8 a9 a10 a11 a12 a1 a2 a3 a4 _ ⟨#[]⟩ A0_13 c0_13 l HKd (beq_iff_eq.2 k1) (beq_eq_false_iff_ne.2 b2) (beq_iff_eq.2 b3) i5 i6 i7 i8 i9 i10 i11
      rw [if_neg b3]
      by_cases b4 : a8 = 4
      · rw [if_pos b4]
        exact fields_1_4 w hT_ a0 a5 a6 a7 a8 a9 a10 a11 a12 a1 a2 a3 a4 _ ⟨#[]⟩ A0_13 c0_13 l HKd (beq_iff_eq.2 k1) (beq_eq_false_iff_ne.2 b2) (beq_eq_false_iff_ne.2 b3) (beq_iff_eq.2 b4) i5 i6 i7 i8 i9 i10 i12
      rw [if_neg b4]
      exact fields_1_x w hT_ a0 a5 a6 a7 a8 a9 a10 a11 a12 a1 a2 a3 a4 _ ⟨#[]⟩ A0_13 c0_13 l HKd (beq_iff_eq.2 k1) (beq_eq_false_iff_ne.2 b2) (beq_eq_false_iff_ne.2 b3) (beq_eq_false_iff_ne.2 b4) i5 i6 i7 i8 i9 i10
    rw [if_neg k1]
    by_cases k3 : a0 = 3
    · rw [if_pos k3]
      exact fields_3 w hT_ a0 a5 a6 a7 a8 a9 a10 a11 a12 a1 a2 a3 a4 _ ⟨#[]⟩ A0_13 c0_13 l HKd (beq_eq_false_iff_ne.2 k1) (beq_iff_eq.2 k3) i6 i7 i10
    rw [if_neg k3]
    exact fields_x w hT_ a0 a5 a6 a7 a8 a9 a10 a11 a12 a1 a2 a3 a4 _ ⟨#[]⟩ A0_13 c0_13 l HKd (beq_eq_false_iff_ne.2 k1) (beq_eq_false_iff_ne.2 k3)
  · rw [if_neg c] at h; cases h
end Go.Proofs.YtgfigkfcmkdjdaaGreatDoor.B
end
