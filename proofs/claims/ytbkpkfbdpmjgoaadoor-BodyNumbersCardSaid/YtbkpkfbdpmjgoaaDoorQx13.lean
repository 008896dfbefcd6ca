/- Each Go function that the laws of this seat reach, as a plain Lean function, and its contract: the machine's call does what that function says. -/
import Derived.Test.YtbkpkfbdpmjgoaaDoorQx0
import Derived.Test.YtbkpkfbdpmjgoaaDoorQx1
import Derived.Test.YtbkpkfbdpmjgoaaDoorQx3
import Derived.Test.YtbkpkfbdpmjgoaaDoorQx6
import Derived.Test.YtbkpkfbdpmjgoaaDoorQx12
namespace Go.Proofs.YtbkpkfbdpmjgoaaDoor.Q
open Go.RowKit Go.Proofs.YtbkpkfbdpmjgoaaDoorW.PrintWords Go.Proofs.YtbkpkfbdpmjgoaaDoorW.PrintLast Go.Proofs.YtbkpkfbdpmjgoaaDoorW.PrintMore
attribute [local go_sem] max2_int min2_int max_two min_two max_three min_three max_four min_four   -- for this text's walks alone
set_option linter.unusedVariables false
set_option linter.unusedSimpArgs false

--PART
/-! ### spigotlaw11_awake: function 7 -/
-- rests on 14, 18, 21
theorem Below.drewN_f {B : Nat} {a w : World} (h : Below B a w) (q : Nat) : Below B a (w.drewN q) := ⟨h.os, h.tape, h.output, h.size, h.block⟩
/-- All blocks of a form lie below a number, or all from it on. -/
structure FormLow (N g : Nat) (p : PlS) : Prop where
  g : g < N
  a : p.a < N
  v : p.v < N
  o : ∀ x, p.A = some x → x.block < N
structure FormHigh (N g : Nat) (p : PlS) : Prop where
  g : N ≤ g
  a : N ≤ p.a
  v : N ≤ p.v
  o : ∀ x, p.A = some x → N ≤ x.block
theorem FormIs.low {g : Nat} {p : PlS} {F : FormS} {k : Nat} {w : World} (h : FormIs g p F k w) (hl : 0 < F.order.length) : FormLow w.heap.size g p := by
  obtain ⟨D, h1, _⟩ := h.vals
  obtain ⟨D2, h2, _⟩ := h.asked
  obtain ⟨ad, hA, hc, _⟩ := h.ord 0 hl
  refine ⟨h.lt, h2.lt, h1.lt, fun x hx => ?_⟩
  obtain rfl : ad = x := Option.some.inj (hA.symm.trans hx)
  have := World.block_lt_of_cell? w _ hc
  rwa [addr_block] at this
/-- What writes the lower form leaves the higher one, and the other way round. -/
theorem FormIs.keepHigh {N g1 g2 k : Nat} {p1 p2 : PlS} {F : FormS} {w w' : World} (h : FormIs g2 p2 F k w) (l : FormLow N g1 p1) (u : FormHigh N g2 p2) (ht : Turned (FormB g1 p1) w w') : FormIs g2 p2 F k w' := by
  have := l.g; have := l.a; have := u.g; have := u.a; have := u.v
  exact h.turned ht (fun e => by rcases e with e | e <;> omega) (fun e => by rcases e with e | e <;> omega) (fun e => by rcases e with e | e <;> omega) (fun a ha e => by have := u.o a ha; rcases e with e | e <;> omega)
theorem FormIs.keepLow {N g1 g2 k : Nat} {p1 p2 : PlS} {F : FormS} {w w' : World} (h : FormIs g1 p1 F k w) (l : FormLow N g1 p1) (u : FormHigh N g2 p2) (ht : Turned (FormB g2 p2) w w') : FormIs g1 p1 F k w' := by
  have := l.g; have := l.a; have := u.g; have := u.a; have := l.v
  exact h.turned ht (fun e => by rcases e with e | e <;> omega) (fun e => by rcases e with e | e <;> omega) (fun e => by rcases e with e | e <;> omega) (fun a ha e => by have := l.o a ha; rcases e with e | e <;> omega)
def aw1 : List S51 := [⟨35, ⟨#[68]⟩⟩, ⟨38, ⟨#[48, 55]⟩⟩]
def aw2 : List S51 := [⟨35, ⟨#[68]⟩⟩, ⟨38, ⟨#[55]⟩⟩, ⟨54, ⟨#[49]⟩⟩]
theorem aw_form (t : Nat) (ht : 1 ≤ t ∧ t < 100) (v : List UInt8) (hv : v ≠ []) (hl : v.length ≤ 512) (ha : allMay v = true) (r : List UInt8) (hr : digitsN t ++ 61 :: (v ++ [1]) = r) : formL (t : Int) v = (r, 0) := by
  unfold formL valueL
  rw [if_neg (by omega), ha, Int.toNat_natCast, hr]
  have : 1 ≤ v.length := List.length_pos_iff.2 hv
  simp [this, hl]
theorem dig2 (a b : Nat) (ha : 1 ≤ a) (ha2 : a < 10) (hb : b < 10) : digitsN (10 * a + b) = [UInt8.ofNat (48 + a), UInt8.ofNat (48 + b)] := by
  rw [digitsN_step (by omega), show (10 * a + b) / 10 = a by omega, show (10 * a + b) % 10 = b by omega, digitsN_small ha2]; rfl
theorem may1 (b : UInt8) (h : b.toNat < 128) (hm : mayB b.toNat = true) (t : List UInt8) : allMay (b :: t) = allMay t := by
  rw [allMay_cons _ (by simp), dec_ascii _ _ h, hm]
  simp
theorem aw_read1 : readB ⟨#[51, 53, 61, 68, 1, 51, 56, 61, 48, 55, 1]⟩ = (some (formOf aw1), 0) := by
  have f1 : formL 35 [68] = ([51, 53, 61, 68, 1], 0) := aw_form 35 (by decide) _ (by simp) (by decide) (by rw [may1 _ (by decide) (by decide), allMay_nil]) _ (by rw [show 35 = 10 * 3 + 5 from rfl, dig2 3 5 (by decide) (by decide) (by decide)]; rfl)
  have f2 : formL 38 [48, 55] = ([51, 56, 61, 48, 55, 1], 0) := aw_form 38 (by decide) _ (by simp) (by decide) (by rw [may1 _ (by decide) (by decide), may1 _ (by decide) (by decide), allMay_nil]) _ (by rw [show 38 = 10 * 3 + 8 from rfl, dig2 3 8 (by decide) (by decide) (by decide)]; rfl)
  have hfs : formsL [(35, [68]), (38, [48, 55])] = ([51, 53, 61, 68, 1, 51, 56, 61, 48, 55, 1], 0) := by simp [formsL, f1, f2]
  have h := fieldsL_formed [(35, [68]), (38, [48, 55])] 0 0 (by rw [hfs]) (by decide)
  rw [hfs] at h
  unfold readB fieldsB
  rw [show (⟨#[51, 53, 61, 68, 1, 51, 56, 61, 48, 55, 1]⟩ : ByteArray).data.toList = [51, 53, 61, 68, 1, 51, 56, 61, 48, 55, 1] from rfl, h]
  rfl
theorem aw_read2 : readB ⟨#[51, 53, 61, 68, 1, 51, 56, 61, 55, 1, 53, 52, 61, 49, 1]⟩ = (some (formOf aw2), 0) := by
  have f1 : formL 35 [68] = ([51, 53, 61, 68, 1], 0) := aw_form 35 (by decide) _ (by simp) (by decide) (by rw [may1 _ (by decide) (by decide), allMay_nil]) _ (by rw [show 35 = 10 * 3 + 5 from rfl, dig2 3 5 (by decide) (by decide) (by decide)]; rfl)
  have f2 : formL 38 [55] = ([51, 56, 61, 55, 1], 0) := aw_form 38 (by decide) _ (by simp) (by decide) (by rw [may1 _ (by decide) (by decide), allMay_nil]) _ (by rw [show 38 = 10 * 3 + 8 from rfl, dig2 3 8 (by decide) (by decide) (by decide)]; rfl)
  have f3 : formL 54 [49] = ([53, 52, 61, 49, 1], 0) := aw_form 54 (by decide) _ (by simp) (by decide) (by rw [may1 _ (by decide) (by decide), allMay_nil]) _ (by rw [show 54 = 10 * 5 + 4 from rfl, dig2 5 4 (by decide) (by decide) (by decide)]; rfl)
  have hfs : formsL [(35, [68]), (38, [55]), (54, [49])] = ([51, 53, 61, 68, 1, 51, 56, 61, 55, 1, 53, 52, 61, 49, 1], 0) := by simp [formsL, f1, f2, f3]
  have h := fieldsL_formed [(35, [68]), (38, [55]), (54, [49])] 0 0 (by rw [hfs]) (by decide)
  rw [hfs] at h
  unfold readB fieldsB
  rw [show (⟨#[51, 53, 61, 68, 1, 51, 56, 61, 55, 1, 53, 52, 61, 49, 1]⟩ : ByteArray).data.toList = [51, 53, 61, 68, 1, 51, 56, 61, 55, 1, 53, 52, 61, 49, 1] from rfl, h]
  rfl
theorem aw_f1 : (formOf aw1).vals 35 = some ⟨#[68]⟩ := rfl
theorem aw_f2 : (formOf aw2).vals 35 = some ⟨#[68]⟩ := rfl
abbrev awF1 : FormS := ((formOf aw1).mark 35)
abbrev awF2 : FormS := ((formOf aw2).mark 35)
theorem aw_i1 : askL (fun s => takeInt s 0 9) 0 awF1 38 = (0, (awF1.mark 38).fail 38 112) := by
  unfold askL
  rw [if_neg (by decide), show awF1.vals 38 = some ⟨#[48, 55]⟩ from rfl]
  rfl
theorem aw_i2 : askL (fun s => takeInt s 0 9) 0 awF2 38 = (7, awF2.mark 38) := by
  unfold askL
  rw [if_neg (by decide), show awF2.vals 38 = some ⟨#[55]⟩ from rfl]
  rfl
theorem aw_d2 : spareL (awF2.mark 38).asked (awF2.mark 38).order = (54, 113) := by rfl
theorem aw_sizes1 : ∀ x s, awF1.vals x = some s → s.size ≤ 140737488351232 := fun x s h => by
  have := (readB_sizes _ _ _ aw_read1).1 x s h; omega
theorem aw_sizes2 : ∀ x s, awF2.vals x = some s → s.size ≤ 140737488351232 := fun x s h => by
  have := (readB_sizes _ _ _ aw_read2).1 x s h; omega
theorem aw_kind (F : FormS) (h0 : F.e = 0) (h35 : F.vals 35 = some ⟨#[68]⟩) (g : Nat) (p : PlS) (w : World) (h : FormIs g p F 0 w) :
    Calls Tryd.prog 15 #[.pointer (some ⟨g, 0, none⟩)] w fun e w' => e = .returned (.string ⟨#[68]⟩) ∧ FormIs g p (F.mark 35) 1 w' ∧ Turned (FormB g p) w w' :=
  (form_kind g p F 0 w h (by decide)).mono fun e w' hh => by
    obtain ⟨rfl, _, h2⟩ := hh
    rw [h35]
    exact ⟨rfl, (h2 h0).1, (h2 h0).2⟩
set_option maxRecDepth 100000 in
set_option maxHeartbeats 4000000 in
theorem awake_walk (w : World) : Calls Tryd.prog 7 #[] w fun e w' => e = .returned (.bool true) ∧ Below w.heap.size w w' := by
  have HR1 := Aside0.mk (read_walk ⟨#[51, 53, 61, 68, 1, 51, 56, 61, 48, 55, 1]⟩ w (by decide))
  have HR2 : Aside0 (∀ W, Calls Tryd.prog 21 #[.string ⟨#[51, 53, 61, 68, 1, 51, 56, 61, 55, 1, 53, 52, 61, 49, 1]⟩] W (ReadIs (some (formOf aw2), 0) W)) := ⟨fun W => by rw [← aw_read2]; exact read_walk _ W (by decide)⟩
  rw [aw_read1] at HR1
  have hKd : ∀ F : FormS, F.e = 0 → F.vals 35 = some ⟨#[68]⟩ → Aside0 (∀ g p W, FormIs g p F 0 W → Calls Tryd.prog 15 #[.pointer (some ⟨g, 0, none⟩)] W fun e w' => e = .returned (.string ⟨#[68]⟩) ∧ FormIs g p (F.mark 35) 1 w' ∧ Turned (FormB g p) W w') := fun F h0 h35 => ⟨fun g p W h => aw_kind F h0 h35 g p W h⟩
  have HK1 := hKd (formOf aw1) rfl aw_f1
  have HK2 := hKd (formOf aw2) rfl aw_f2
  clear hKd
  have HI1 : Aside0 (∀ g p W, FormIs g p awF1 1 W → p.a < W.heap.size → Calls Tryd.prog 18 #[.pointer (some ⟨g, 0, none⟩), .int .i64 38, .int .i64 0, .int .i64 9] W fun e w' => e = .returned (.int .i64 0) ∧ FormIs g p ((awF1.mark 38).fail 38 112) 2 w' ∧ Turned (FormB g p) W w') :=
    ⟨fun g p W h ha => (form_int g p awF1 1 W h (by decide) aw_sizes1 38 0 9 (i64ok_of (by decide) (by decide)) ha).mono fun e w' hh => by rw [aw_i1] at hh; exact hh⟩
  have HI2 : Aside0 (∀ g p W, FormIs g p awF2 1 W → p.a < W.heap.size → Calls Tryd.prog 18 #[.pointer (some ⟨g, 0, none⟩), .int .i64 38, .int .i64 0, .int .i64 9] W fun e w' => e = .returned (.int .i64 7) ∧ FormIs g p (awF2.mark 38) 2 w' ∧ Turned (FormB g p) W w') :=
    ⟨fun g p W h ha => (form_int g p awF2 1 W h (by decide) aw_sizes2 38 0 9 (i64ok_of (by decide) (by decide)) ha).mono fun e w' hh => by rw [aw_i2] at hh; exact hh⟩
  have HD1 : Aside0 (∀ g p W, FormIs g p ((awF1.mark 38).fail 38 112) 2 W → Calls Tryd.prog 14 #[.pointer (some ⟨g, 0, none⟩)] W fun e w' => e = .returned (.tuple #[.int .i64 38, .int .i64 112]) ∧ ∃ q, w' = W.drewN q) :=
    ⟨fun g p W h => form_done_e g p _ 2 W h (by decide)⟩
  have HD2 : Aside0 (∀ g p W, FormIs g p (awF2.mark 38) 2 W → Calls Tryd.prog 14 #[.pointer (some ⟨g, 0, none⟩)] W fun e w' => e = .returned (.tuple #[.int .i64 54, .int .i64 113]) ∧ w' = W) :=
    ⟨fun g p W h => (form_done_ok g p _ 2 W h rfl (by decide)).mono fun e w' hh => by rw [aw_d2] at hh; exact hh⟩
  go_enter Tryd.func7, Tryd.ntmps7
  go_wp2_with (first
    | (go_at_call 21; first
        | ((with_reducible refine HR1.out.mono ?_); rintro e1 w1 ⟨hb1, g1, p1, rfl, hf1, a1, a2, a3, a4⟩; have hs1 := hb1.size; have L := Aside0.mk (hf1.low (by decide)); have HF1 := Aside0.mk hf1; have HB := Aside0.mk hb1; clear hf1 hb1 a4 HR1)
        | ((with_reducible refine (HR2.out _).mono ?_); rintro e2 w2 ⟨hb2, g2, p2, rfl, hf2, b1, b2, b3, b4⟩; have U := Aside0.mk (FormHigh.mk b1 b2 b3 b4); have HF1' := Aside0.mk (HF1.out.below hb2); have HF2 := Aside0.mk hf2; have HB' := Aside0.mk (HB.out.trans (hb2.mono HB.out.size)); have hsz := hb2.size; clear hf2 hb2 b4 HR2 HF1 HB))
    | (go_at_call 15; first
        | ((with_reducible refine (HK1.out g1 p1 _ HF1'.out).mono ?_); rintro e3 w3 ⟨rfl, h3, t3⟩; have HZ3 := Aside0.mk t3.size; have G1 := Aside0.mk h3; have HF2' := Aside0.mk (HF2.out.keepHigh L.out U.out t3); have HB3 := Aside0.mk (HB'.out.trans (t3.below (fun k hk => by rcases hk with hk | hk <;> omega) HB'.out.size)); clear h3 t3 HF1' HF2 HB' HK1)
        | ((with_reducible refine (HK2.out g2 p2 _ HF2'.out).mono ?_); rintro e4 w4 ⟨rfl, h4, t4⟩; have G2 := Aside0.mk h4; have G1' := Aside0.mk (G1.out.keepLow L.out U.out t4); have HZ := Aside0.mk (Nat.le_trans hsz (Nat.le_trans HZ3.out t4.size)); have HB4 := Aside0.mk (HB3.out.trans (t4.below (fun k hk => by rcases hk with hk | hk <;> omega) HB3.out.size)); clear h4 t4 G1 HF2' HB3 HK2 HZ3))
    | (go_at_call 18; first
        | ((with_reducible refine (HI1.out g1 p1 _ G1'.out (Nat.lt_of_lt_of_le L.out.a HZ.out)).mono ?_); rintro e5 w5 ⟨rfl, h5, t5⟩; have E1 := Aside0.mk h5; have G2' := Aside0.mk (G2.out.keepHigh L.out U.out t5); have HB5 := Aside0.mk (HB4.out.trans (t5.below (fun k hk => by rcases hk with hk | hk <;> omega) HB4.out.size)); have HZ5 := Aside0.mk (Nat.le_trans HZ.out t5.size); clear h5 t5 G1' G2 HB4 HI1 HZ)
        | ((with_reducible refine (HI2.out g2 p2 _ G2'.out (FormIs.alt G2'.out)).mono ?_); rintro e6 w6 ⟨rfl, h6, t6⟩; have E2 := Aside0.mk h6; have E1' := Aside0.mk (E1.out.keepLow L.out U.out t6); have HB6 := Aside0.mk (HB5.out.trans (t6.below (fun k hk => by rcases hk with hk | hk <;> omega) HB5.out.size)); clear h6 t6 E1 G2' HB5 HI2 HZ5))
    | (go_at_call 14; first
        | ((with_reducible refine (HD1.out g1 p1 _ E1'.out).mono ?_); rintro e7 w7 ⟨rfl, q, rfl⟩; have E2' := Aside0.mk (E2.out.below (Below.drewN_f (Below.refl _ _) q)); have HB7 := Aside0.mk (Below.drewN_f HB6.out q); clear E1' E2 HB6 HD1)
        | ((with_reducible refine (HD2.out g2 p2 _ E2'.out).mono ?_); rintro e8 w8 ⟨rfl, rfl⟩)))
  go_ret
  exact ⟨rfl, HB7.out⟩
def spigotlaw11_awake.f : Option Bool := some true
theorem spigotlaw11_awake.calls (r : Bool) (w : World) (h : spigotlaw11_awake.f = some r) :
    Calls Tryd.prog 7 #[] w fun e w' => e = .returned (.bool r) ∧ Below w.heap.size w w' := by
  obtain rfl := Option.some.inj h
  exact awake_walk w

end Go.Proofs.YtbkpkfbdpmjgoaaDoor.Q
