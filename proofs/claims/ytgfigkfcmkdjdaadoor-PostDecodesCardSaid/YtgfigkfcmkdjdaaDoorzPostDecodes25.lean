/- The functions that the law reaches, as plain Lean functions, and their contracts: texts merged. -/
import Derived.Test.YtgfigkfcmkdjdaaDoorzPostDecodes3
import Derived.Test.YtgfigkfcmkdjdaaDoorzPostDecodes0
import Derived.Test.YtgfigkfcmkdjdaaDoorzPostDecodes1
import Derived.Test.YtgfigkfcmkdjdaaDoorzPostDecodes2
import Derived.Test.YtgfigkfcmkdjdaaDoorzPostDecodes4
import Derived.Test.YtgfigkfcmkdjdaaDoorzPostDecodes5
import Derived.Test.YtgfigkfcmkdjdaaDoorzPostDecodes6
import Derived.Test.YtgfigkfcmkdjdaaDoorzPostDecodes7
import Derived.Test.YtgfigkfcmkdjdaaDoorzPostDecodes8
import Derived.Test.YtgfigkfcmkdjdaaDoorzPostDecodes9
import Derived.Test.YtgfigkfcmkdjdaaDoorzPostDecodes10
import Derived.Test.YtgfigkfcmkdjdaaDoorzPostDecodes11
import Derived.Test.YtgfigkfcmkdjdaaDoorzPostDecodes12
import Derived.Test.YtgfigkfcmkdjdaaDoorzPostDecodes13
import Derived.Test.YtgfigkfcmkdjdaaDoorzPostDecodes14
import Derived.Test.YtgfigkfcmkdjdaaDoorzPostDecodes15
import Derived.Test.YtgfigkfcmkdjdaaDoorzPostDecodes16
import Derived.Test.YtgfigkfcmkdjdaaDoorzPostDecodes17
import Derived.Test.YtgfigkfcmkdjdaaDoorzPostDecodes18
import Derived.Test.YtgfigkfcmkdjdaaDoorzPostDecodes19
import Derived.Test.YtgfigkfcmkdjdaaDoorzPostDecodes20
import Derived.Test.YtgfigkfcmkdjdaaDoorzPostDecodes21
import Derived.Test.YtgfigkfcmkdjdaaDoorzPostDecodes22
import Derived.Test.YtgfigkfcmkdjdaaDoorzPostDecodes23
import Derived.Test.YtgfigkfcmkdjdaaDoorzPostDecodes24
section
namespace Go.Proofs.YtgfigkfcmkdjdaaDoor.B
open Go.RowKit Go.Proofs.YtgfigkfcmkdjdaaDoorW.PrintWords Go.Proofs.YtgfigkfcmkdjdaaDoorW.PrintLast Go.Proofs.YtgfigkfcmkdjdaaDoorW.PrintMore
attribute [local go_sem] max2_int min2_int max_two min_two max_three min_three max_four min_four   -- for this text's walks alone
set_option linter.unusedVariables false
set_option linter.unusedSimpArgs false
theorem spareL_e (asked : Int → Bool) : ∀ l : List Int, (spareL asked l).2 = 0 ∨ (spareL asked l).2 = 113
  | [] => .inl rfl
  | t :: r => by
    rw [spareL_cons]
    split
    · exact spareL_e asked r
    · exact .inr rfl
theorem doneL_off {F : FormS} (h : F.e ≠ 0) : doneL F = (F.tag, F.e) := by unfold doneL; rw [if_pos h]
theorem doneL_on {F : FormS} (h : F.e = 0) : ¬ ((doneL F).2 ≠ 0 ∧ (doneL F).2 ≠ 113) := by
  unfold doneL
  rw [if_neg (by simpa using h)]
  rcases spareL_e F.asked F.order with g | g <;> rw [g] <;> omega
theorem askL_113 {α : Type} {take : ByteArray → α × Int} {z : α} {F : FormS} {t : Int} (ht : ∀ s, (take s).2 ≠ 113) (h : F.e ≠ 113) : (askL take z F t).2.e ≠ 113 := by
  by_cases h0 : F.e = 0
  · cases hv : F.vals t with
    | none => rw [askL_none take z F t h0 hv]; show (110 : Int) ≠ 113; decide
    | some s =>
      rw [askL_some take z F t h0 hv]
      split
      · exact h
      · exact ht s
  · rw [askL_off take z F t h0]; exact h
theorem takeName_113 (s : ByteArray) : (takeName s).2 ≠ 113 := by
  unfold takeName
  split
  · show (0 : Int) ≠ 113; decide
  · show (43 : Int) ≠ 113; decide
theorem takeInt_113 (lo hi : Int) (s : ByteArray) : (takeInt s lo hi).2 ≠ 113 := by
  unfold takeInt
  split
  · show (2 : Int) ≠ 113; decide
  · show (((numP s.data.toList).2 : Nat) : Int) ≠ 113
    rcases (numP_range s.data.toList).2 with g | ⟨g, _⟩ <;> rw [g] <;> decide
section
variable {s : ByteArray} {F F1 F2 F3 F4 F5 F6 : FormS} {q q5 q6 td ed : Int} {i x wd n : ByteArray} {k : Nat}
theorem rep_e4 (h0 : F.e = 0) (E1 : askL (fun s => takeInt s 1 1099511627776) 0 (F.mark 35) 34 = (q, F1)) (E2 : askL takeName ⟨#[]⟩ F1 11 = (i, F2)) (E3 : askL takeName ⟨#[]⟩ F2 17 = (x, F3)) (E4 : askL takeName ⟨#[]⟩ F3 150 = (wd, F4)) : F4.e ≠ 113 := by
  have a1 := askL_113 (z := (0 : Int)) (F := F.mark 35) (t := 34) (takeInt_113 1 1099511627776) (by show F.e ≠ 113; omega)
  rw [E1] at a1
  have a2 := askL_113 (z := (⟨#[]⟩ : ByteArray)) (F := F1) (t := 11) takeName_113 a1
  rw [E2] at a2
  have a3 := askL_113 (z := (⟨#[]⟩ : ByteArray)) (F := F2) (t := 17) takeName_113 a2
  rw [E3] at a3
  have a4 := askL_113 (z := (⟨#[]⟩ : ByteArray)) (F := F3) (t := 150) takeName_113 a3
  rw [E4] at a4
  exact a4
theorem docE (hq : readB s = (some F, 0)) (hv : (F.vals 35).getD ⟨#[]⟩ = ⟨#[56]⟩) (h0 : F.e = 0) (E1 : askL (fun s => takeInt s 1 1099511627776) 0 (F.mark 35) 34 = (q, F1)) (E2 : askL takeName ⟨#[]⟩ F1 11 = (i, F2)) (E3 : askL takeName ⟨#[]⟩ F2 17 = (x, F3)) (E4 : askL takeName ⟨#[]⟩ F3 150 = (wd, F4))
    (h4 : F4.e ≠ 0) (D : doneL F4 = (td, ed)) : replyD s = (zRep, td, ed) ∧ ed ≠ 0 := by
  have d := doneL_off h4
  rw [D] at d
  obtain ⟨rfl, rfl⟩ := Prod.mk.inj d
  exact ⟨replyD_bad hq hv (takeP_8 E1 E2 (reportP_bad E3 E4 D ⟨h4, rep_e4 h0 E1 E2 E3 E4⟩)) h4, h4⟩
theorem doc0 (hq : readB s = (some F, 0)) (hv : (F.vals 35).getD ⟨#[]⟩ = ⟨#[56]⟩) (E1 : askL (fun s => takeInt s 1 1099511627776) 0 (F.mark 35) 34 = (q, F1)) (E2 : askL takeName ⟨#[]⟩ F1 11 = (i, F2)) (E3 : askL takeName ⟨#[]⟩ F2 17 = (x, F3)) (E4 : askL takeName ⟨#[]⟩ F3 150 = (wd, F4))
    (h4 : F4.e = 0) (hk : repKind wd = 0) : replyD s = (zRep, 150, 120) :=
  replyD_bad hq hv (takeP_8 E1 E2 (reportP_zero E3 E4 rfl (doneL_on h4) hk)) (by decide)
theorem doc5 (hq : readB s = (some F, 0)) (hv : (F.vals 35).getD ⟨#[]⟩ = ⟨#[56]⟩) (h0 : F.e = 0) (E1 : askL (fun s => takeInt s 1 1099511627776) 0 (F.mark 35) 34 = (q, F1)) (E2 : askL takeName ⟨#[]⟩ F1 11 = (i, F2)) (E3 : askL takeName ⟨#[]⟩ F2 17 = (x, F3)) (E4 : askL takeName ⟨#[]⟩ F3 150 = (wd, F4))
    (hk : repKind wd = 5) (E5 : askL (fun s => takeInt s 1 1099511627776) 0 F4 32 = (q5, F5)) (E6 : askL (fun s => takeInt s 1 1099511627776) 0 F5 31 = (q6, F6)) (D : doneL F6 = (td, ed)) :
    (ed ≠ 0 → replyD s = (zRep, td, ed)) ∧ (ed = 0 → replyD s = (⟨5, q, i, x, q5, q6, ⟨#[]⟩⟩, 0, 0)) := by
  by_cases h4 : F4.e = 0
  · have ht := takeP_8 E1 E2 (reportP_5 E3 E4 rfl (doneL_on h4) hk E5 E6)
    exact ⟨fun h => replyD_undone hq hv ht D h, fun h => by subst h; exact replyD_good hq hv ht D⟩
  · rw [askL_off _ _ _ _ h4] at E5
    obtain ⟨_, rfl⟩ := Prod.mk.inj E5
    rw [askL_off _ _ _ _ h4] at E6
    obtain ⟨_, rfl⟩ := Prod.mk.inj E6
    obtain ⟨a, b⟩ := docE hq hv h0 E1 E2 E3 E4 h4 D
    exact ⟨fun _ => a, fun h => absurd h b⟩
theorem doc6 (hq : readB s = (some F, 0)) (hv : (F.vals 35).getD ⟨#[]⟩ = ⟨#[56]⟩) (h0 : F.e = 0) (E1 : askL (fun s => takeInt s 1 1099511627776) 0 (F.mark 35) 34 = (q, F1)) (E2 : askL takeName ⟨#[]⟩ F1 11 = (i, F2)) (E3 : askL takeName ⟨#[]⟩ F2 17 = (x, F3)) (E4 : askL takeName ⟨#[]⟩ F3 150 = (wd, F4))
    (hk : repKind wd = 6) (E5 : askL takeName ⟨#[]⟩ F4 19 = (n, F5)) (D : doneL F5 = (td, ed)) :
    (ed ≠ 0 → replyD s = (zRep, td, ed)) ∧ (ed = 0 → replyD s = (⟨6, q, i, x, 0, 0, n⟩, 0, 0)) := by
  by_cases h4 : F4.e = 0
  · have ht := takeP_8 E1 E2 (reportP_6 E3 E4 rfl (doneL_on h4) hk E5)
    exact ⟨fun h => replyD_undone hq hv ht D h, fun h => by subst h; exact replyD_good hq hv ht D⟩
  · rw [askL_off _ _ _ _ h4] at E5
    obtain ⟨_, rfl⟩ := Prod.mk.inj E5
    obtain ⟨a, b⟩ := docE hq hv h0 E1 E2 E3 E4 h4 D
    exact ⟨fun _ => a, fun h => absurd h b⟩
theorem docK (hq : readB s = (some F, 0)) (hv : (F.vals 35).getD ⟨#[]⟩ = ⟨#[56]⟩) (h0 : F.e = 0) (E1 : askL (fun s => takeInt s 1 1099511627776) 0 (F.mark 35) 34 = (q, F1)) (E2 : askL takeName ⟨#[]⟩ F1 11 = (i, F2)) (E3 : askL takeName ⟨#[]⟩ F2 17 = (x, F3)) (E4 : askL takeName ⟨#[]⟩ F3 150 = (wd, F4))
    (hk : repKind wd = k) (hk0 : k ≠ 0) (hk5 : k ≠ 5) (hk6 : k ≠ 6) (D : doneL F4 = (td, ed)) :
    (ed ≠ 0 → replyD s = (zRep, td, ed)) ∧ (ed = 0 → replyD s = (⟨(k : Int), q, i, x, 0, 0, ⟨#[]⟩⟩, 0, 0)) := by
  by_cases h4 : F4.e = 0
  · have ht := takeP_8 E1 E2 (reportP_k E3 E4 rfl (doneL_on h4) hk hk0 hk5 hk6)
    exact ⟨fun h => replyD_undone hq hv ht D h, fun h => by subst h; exact replyD_good hq hv ht D⟩
  · obtain ⟨a, b⟩ := docE hq hv h0 E1 E2 E3 E4 h4 D
    exact ⟨fun _ => a, fun h => absurd h b⟩
end
theorem RefBox.below {w : World} {X : Nat → Prop} {g : Nat} {A : Option Addr} {c : Nat} {L : List S78} {b0 b : Nat} {T : TypeId} {Z : Array Value} {F : FormS} {k : Nat} {cs : Array Value} {W W' : World} (h : RefBox w X g A c L b0 b T Z F k cs W) (hb : Below W.heap.size W W') : RefBox w X g A c L b0 b T Z F k cs W' :=
  ⟨h.form.below hb, blk_below h.res hb, blk_below h.box hb, h.low.trans (hb.mono h.low.size), h.xb, h.gb, h.b0g, h.wb0⟩
theorem refWord_kind (v : ByteArray) (i : Nat) (h1 : 1 ≤ i) (h3 : i ≤ 6) : rwordB (i : Int) = v ↔ repKind v = i := by
  rcases (show i = 1 ∨ i = 2 ∨ i = 3 ∨ i = 4 ∨ i = 5 ∨ i = 6 by omega) with rfl | rfl | rfl | rfl | rfl | rfl
  · show (⟨#[48]⟩ : ByteArray) = v ↔ repKind v = 1
    by_cases e : v = ⟨#[48]⟩
    · subst e; exact ⟨fun _ => rfl, fun _ => rfl⟩
    · refine ⟨fun g => absurd g.symm e, fun g => ?_⟩
      unfold repKind at g
      repeat' split at g <;> first | omega | contradiction | skip
  · show (⟨#[52]⟩ : ByteArray) = v ↔ repKind v = 2
    by_cases e : v = ⟨#[52]⟩
    · subst e; exact ⟨fun _ => rfl, fun _ => rfl⟩
    · refine ⟨fun g => absurd g.symm e, fun g => ?_⟩
      unfold repKind at g
      repeat' split at g <;> first | omega | contradiction | skip
  · show (⟨#[53]⟩ : ByteArray) = v ↔ repKind v = 3
    by_cases e : v = ⟨#[53]⟩
    · subst e; exact ⟨fun _ => rfl, fun _ => rfl⟩
    · refine ⟨fun g => absurd g.symm e, fun g => ?_⟩
      unfold repKind at g
      repeat' split at g <;> first | omega | contradiction | skip
  · show (⟨#[56]⟩ : ByteArray) = v ↔ repKind v = 4
    by_cases e : v = ⟨#[56]⟩
    · subst e; exact ⟨fun _ => rfl, fun _ => rfl⟩
    · refine ⟨fun g => absurd g.symm e, fun g => ?_⟩
      unfold repKind at g
      repeat' split at g <;> first | omega | contradiction | skip
  · show (⟨#[70]⟩ : ByteArray) = v ↔ repKind v = 5
    by_cases e : v = ⟨#[70]⟩
    · subst e; exact ⟨fun _ => rfl, fun _ => rfl⟩
    · refine ⟨fun g => absurd g.symm e, fun g => ?_⟩
      unfold repKind at g
      repeat' split at g <;> first | omega | contradiction | skip
  · show (⟨#[72]⟩ : ByteArray) = v ↔ repKind v = 6
    by_cases e : v = ⟨#[72]⟩
    · subst e; exact ⟨fun _ => rfl, fun _ => rfl⟩
    · refine ⟨fun g => absurd g.symm e, fun g => ?_⟩
      unfold repKind at g
      repeat' split at g <;> first | omega | contradiction | skip
set_option maxRecDepth 100000 in
set_option maxHeartbeats 8000000 in
theorem ref14r_none (s : ByteArray) (w : World) (hs : s.size ≤ 140737488351232) (e : Int) (hq : readB s = (none, e)) (he : e ≠ 0) :
    Calls Tryd.prog 32 #[.string s] w (RepIs (replyD s) w) := by
  have HR := Aside0.mk (ref_read_walk s (w.alloc (.cells #[.int .i64 0, .int .i64 0, .string ⟨#[]⟩, .string ⟨#[]⟩, .int .i64 0, .int .i64 0, .string ⟨#[]⟩] 57)) hs)
  have HD := Aside0.mk (replyD_none hq)
  rw [hq] at HR
  have t1 : (e != 0) = true := by rw [bne_iff_ne]; exact he
  have BK0 := Aside0.mk (blk_new w (.cells #[.int .i64 0, .int .i64 0, .string ⟨#[]⟩, .string ⟨#[]⟩, .int .i64 0, .int .i64 0, .string ⟨#[]⟩] 57))
  have HB0 : Aside0 (Below w.heap.size w (w.alloc (.cells #[.int .i64 0, .int .i64 0, .string ⟨#[]⟩, .string ⟨#[]⟩, .int .i64 0, .int .i64 0, .string ⟨#[]⟩] 57))) := ⟨(Below.refl _ _).alloc (Nat.le_refl _) _⟩
  clear hq he
  go_enter Tryd.func32, Tryd.ntmps32
  go_wp2_with (go_at_call 63; refine HR.out.mono ?_; rintro en w1 ⟨hb1, rfl⟩; have BK := Aside0.mk (blk_below BK0.out hb1); have HLow := Aside0.mk (HB0.out.trans (hb1.mono HB0.out.size)); clear hb1; have hc := fun i => blk_cell BK.out i; have hf := fun i => blk_frozen BK.out i)
  refine bodyPost_ret (results_ctt rfl _ _ w.heap.size 57 #[.int .i64 0, .int .i64 0, .string ⟨#[]⟩, .string ⟨#[]⟩, .int .i64 0, .int .i64 0, .string ⟨#[]⟩] (0, 0) _ rfl (blk_fill7 BK.out _ _ _ _ _ _ _) Tryd.underlying57 rfl (by kernel_rfl)) rfl ?_
  exact RepIs.mk_ (o := zRep) HD.out (low_fill7 HLow.out _ _ _ _ _ _ _)
set_option maxRecDepth 100000 in
set_option maxHeartbeats 8000000 in
theorem ref14r_9 (s : ByteArray) (w : World) (hs : s.size ≤ 140737488351232) (F : FormS) (y : Int) (hq : readB s = (some F, y)) (q : Int) (i : ByteArray) (F1 F2 : FormS) (E1 : askL (fun s => takeInt s 1 1099511627776) 0 (F.mark 35) 34 = (q, F1)) (E2 : askL takeName ⟨#[]⟩ F1 11 = (i, F2)) (td xd : Int) (h1 : 0 < (fieldsB s).length) (h8 : (fieldsB s)[0].f1 = ⟨#[57]⟩) (ED : doneL F2 = (td, xd)) (hxd : xd = 0) :
    Calls Tryd.prog 32 #[.string s] w (RepIs (replyD s) w) := by
  have HZ : Aside0 (∀ y ∈ fieldsB s, y.f1.size ≤ 512) := ⟨fun y hy => (fieldsB_good s y hy).2.2⟩
  have HR := Aside0.mk (ref_read_walk s (w.alloc (.cells #[.int .i64 0, .int .i64 0, .string ⟨#[]⟩, .string ⟨#[]⟩, .int .i64 0, .int .i64 0, .string ⟨#[]⟩] 57)) hs)
  have hL : (fieldsB s).length ≤ 1000000 := by have := fieldsB_len s; omega
  obtain ⟨hx, hF, h0, h35, hv35⟩ := readB_some hq
  subst hx
  have HV : Aside0 ((F.vals 35).getD ⟨#[]⟩ = (fieldsB s)[0].f1) := ⟨by rw [hv35]; rfl⟩
  have he0 : F.e = 0 := by rw [hF]; rfl
  rw [hq] at HR
  have BK0 := Aside0.mk (blk_new w (.cells #[.int .i64 0, .int .i64 0, .string ⟨#[]⟩, .string ⟨#[]⟩, .int .i64 0, .int .i64 0, .string ⟨#[]⟩] 57))
  have HB0 : Aside0 (Below w.heap.size w (w.alloc (.cells #[.int .i64 0, .int .i64 0, .string ⟨#[]⟩, .string ⟨#[]⟩, .int .i64 0, .int .i64 0, .string ⟨#[]⟩] 57))) := ⟨(Below.refl _ _).alloc (Nat.le_refl _) _⟩
  have hws : (w.alloc (.cells #[.int .i64 0, .int .i64 0, .string ⟨#[]⟩, .string ⟨#[]⟩, .int .i64 0, .int .i64 0, .string ⟨#[]⟩] 57)).heap.size = w.heap.size + 1 := World.size_alloc _ _
  rw [h8] at HV
  subst hxd
  have HD := Aside0.mk (replyD_good hq HV.out (takeP_9 E1 E2) ED)
  have HE1 := Aside0.mk E1
  have HE2 := Aside0.mk E2
  have HED := Aside0.mk ED
  clear ED hF hv35 h35 hq E1 E2
  generalize fieldsB s = L at *
  have HL := Aside0.mk hL
  have H8 := Aside0.mk h8
  have HE0 := Aside0.mk he0
  clear hL h8 he0
  go_enter Tryd.func32, Tryd.ntmps32
  go_wp2_with (first
    | (go_at_call 63; refine HR.out.mono ?_; rintro en w1 ⟨hb1, g, A, c, rfl, hf, hg⟩; rw [hws] at hg; have HG : Aside0 (w.heap.size < g) := ⟨by omega⟩; have HF := Aside0.mk hf; have BK1 := Aside0.mk (blk_below BK0.out hb1); have HB1 := Aside0.mk (HB0.out.trans (hb1.mono HB0.out.size)); clear hb1 hf hg HR BK0 HB0 hws)
    | (go_at_call 64; refine (ref_kind w1 HF.out HL.out (by decide) h1 HE0.out).mono ?_; rintro en w2 ⟨hen, hf2, ht⟩; rw [H8.out] at hen; obtain rfl := hen; have BK2 := Aside0.mk ((ht.block _ (blk_lt BK1.out) (fun e => e HG.out)).trans BK1.out); have HB2 := Aside0.mk (HB1.out.trans (ht.below (B := w.heap.size) (fun j hj => by have := HG.out; omega) HB1.out.size)); have B1 := Aside0.mk (RefBox.start (w := w) (T := 57) (Z0 := #[.int .i64 7, .int .i64 0, .string ⟨#[]⟩, .string ⟨#[]⟩, .int .i64 0, .int .i64 0, .string ⟨#[]⟩]) hf2 BK2.out HB2.out HG.out (Nat.le_refl _)); clear hf2 ht)
    | (go_at_call 66; ((with_reducible refine (B1.out.int HE1.out HL.out (by omega) HZ.out).mono ?_)); rintro en w13 ⟨rfl, hb⟩; (try clear hc hz); have hbx : w13.heap[w2.heap.size]? = some (.cells #[.int .i64 7, .int .i64 0, .string ⟨#[]⟩, .string ⟨#[]⟩, .int .i64 0, .int .i64 0, .string ⟨#[]⟩] 57 (0, 0)) := hb.box; have hc := fun i => blk_cell hbx i; have hz := fun i => blk_frozen hbx i; have B2 := Aside0.mk (hb.set 1 (.int .i64 q)); clear hbx hb)
    | (go_at_call 65; ((with_reducible refine (B2.out.name HE2.out HL.out (by omega) HZ.out).mono ?_)); rintro en w14 ⟨rfl, hb⟩; (try clear hc hz); have hbx : w14.heap[w2.heap.size]? = some (.cells #[.int .i64 7, .int .i64 q, .string ⟨#[]⟩, .string ⟨#[]⟩, .int .i64 0, .int .i64 0, .string ⟨#[]⟩] 57 (0, 0)) := hb.box; have hc := fun i => blk_cell hbx i; have hz := fun i => blk_frozen hbx i; have B3 := Aside0.mk (hb.set 2 (.string i)); clear hbx hb)
    | (go_at_call 67; ((with_reducible refine (B3.out.done HL.out (by omega) HED.out).mono ?_)); rintro en w30 ⟨rfl, hb⟩; (try clear hc hz); have hbx : w30.heap[w2.heap.size]? = some (.cells #[.int .i64 7, .int .i64 q, .string i, .string ⟨#[]⟩, .int .i64 0, .int .i64 0, .string ⟨#[]⟩] 57 (0, 0)) := hb.box; have hc := fun i => blk_cell hbx i; have hz := fun i => blk_frozen hbx i; have hrx := hb.res; have hrc := fun i => blk_cell hrx i; have hrz := fun i => blk_frozen hrx i; have BK := Aside0.mk hb.res; have HLow := Aside0.mk hb.low; clear hb hbx hrx))
  refine bodyPost_ret (results_ctt rfl _ _ w.heap.size 57 #[.int .i64 7, .int .i64 q, .string i, .string ⟨#[]⟩, .int .i64 0, .int .i64 0, .string ⟨#[]⟩] (0, 0) _ rfl (blk_fill7 BK.out _ _ _ _ _ _ _) Tryd.underlying57 rfl (by kernel_rfl)) rfl ?_
  exact RepIs.mk_ (o := ⟨7, q, i, ⟨#[]⟩, 0, 0, ⟨#[]⟩⟩) HD.out (low_fill7 HLow.out _ _ _ _ _ _ _)
set_option maxRecDepth 100000 in
set_option maxHeartbeats 8000000 in
theorem ref14r_9b (s : ByteArray) (w : World) (hs : s.size ≤ 140737488351232) (F : FormS) (y : Int) (hq : readB s = (some F, y)) (q : Int) (i : ByteArray) (F1 F2 : FormS) (E1 : askL (fun s => takeInt s 1 1099511627776) 0 (F.mark 35) 34 = (q, F1)) (E2 : askL takeName ⟨#[]⟩ F1 11 = (i, F2)) (td xd : Int) (h1 : 0 < (fieldsB s).length) (h8 : (fieldsB s)[0].f1 = ⟨#[57]⟩) (ED : doneL F2 = (td, xd)) (hxd : xd ≠ 0) :
    Calls Tryd.prog 32 #[.string s] w (RepIs (replyD s) w) := by
  have HZ : Aside0 (∀ y ∈ fieldsB s, y.f1.size ≤ 512) := ⟨fun y hy => (fieldsB_good s y hy).2.2⟩
  have HR := Aside0.mk (ref_read_walk s (w.alloc (.cells #[.int .i64 0, .int .i64 0, .string ⟨#[]⟩, .string ⟨#[]⟩, .int .i64 0, .int .i64 0, .string ⟨#[]⟩] 57)) hs)
  have hL : (fieldsB s).length ≤ 1000000 := by have := fieldsB_len s; omega
  obtain ⟨hx, hF, h0, h35, hv35⟩ := readB_some hq
  subst hx
  have HV : Aside0 ((F.vals 35).getD ⟨#[]⟩ = (fieldsB s)[0].f1) := ⟨by rw [hv35]; rfl⟩
  have he0 : F.e = 0 := by rw [hF]; rfl
  rw [hq] at HR
  have BK0 := Aside0.mk (blk_new w (.cells #[.int .i64 0, .int .i64 0, .string ⟨#[]⟩, .string ⟨#[]⟩, .int .i64 0, .int .i64 0, .string ⟨#[]⟩] 57))
  have HB0 : Aside0 (Below w.heap.size w (w.alloc (.cells #[.int .i64 0, .int .i64 0, .string ⟨#[]⟩, .string ⟨#[]⟩, .int .i64 0, .int .i64 0, .string ⟨#[]⟩] 57))) := ⟨(Below.refl _ _).alloc (Nat.le_refl _) _⟩
  have hws : (w.alloc (.cells #[.int .i64 0, .int .i64 0, .string ⟨#[]⟩, .string ⟨#[]⟩, .int .i64 0, .int .i64 0, .string ⟨#[]⟩] 57)).heap.size = w.heap.size + 1 := World.size_alloc _ _
  rw [h8] at HV
  have HD := Aside0.mk (replyD_undone hq HV.out (takeP_9 E1 E2) ED hxd)
  have t1 : (xd != 0) = true := by rw [bne_iff_ne]; exact hxd
  have HE1 := Aside0.mk E1
  have HE2 := Aside0.mk E2
  have HED := Aside0.mk ED
  clear ED hF hv35 h35 hq E1 E2 hxd
  generalize fieldsB s = L at *
  have HL := Aside0.mk hL
  have H8 := Aside0.mk h8
  have HE0 := Aside0.mk he0
  clear hL h8 he0
  go_enter Tryd.func32, Tryd.ntmps32
  go_wp2_with (first
    | (go_at_call 63; refine HR.out.mono ?_; rintro en w1 ⟨hb1, g, A, c, rfl, hf, hg⟩; rw [hws] at hg; have HG : Aside0 (w.heap.size < g) := ⟨by omega⟩; have HF := Aside0.mk hf; have BK1 := Aside0.mk (blk_below BK0.out hb1); have HB1 := Aside0.mk (HB0.out.trans (hb1.mono HB0.out.size)); clear hb1 hf hg HR BK0 HB0 hws)
    | (go_at_call 64; refine (ref_kind w1 HF.out HL.out (by decide) h1 HE0.out).mono ?_; rintro en w2 ⟨hen, hf2, ht⟩; rw [H8.out] at hen; obtain rfl := hen; have BK2 := Aside0.mk ((ht.block _ (blk_lt BK1.out) (fun e => e HG.out)).trans BK1.out); have HB2 := Aside0.mk (HB1.out.trans (ht.below (B := w.heap.size) (fun j hj => by have := HG.out; omega) HB1.out.size)); have B1 := Aside0.mk (RefBox.start (w := w) (T := 57) (Z0 := #[.int .i64 7, .int .i64 0, .string ⟨#[]⟩, .string ⟨#[]⟩, .int .i64 0, .int .i64 0, .string ⟨#[]⟩]) hf2 BK2.out HB2.out HG.out (Nat.le_refl _)); clear hf2 ht)
    | (go_at_call 66; ((with_reducible refine (B1.out.int HE1.out HL.out (by omega) HZ.out).mono ?_)); rintro en w13 ⟨rfl, hb⟩; (try clear hc hz); have hbx : w13.heap[w2.heap.size]? = some (.cells #[.int .i64 7, .int .i64 0, .string ⟨#[]⟩, .string ⟨#[]⟩, .int .i64 0, .int .i64 0, .string ⟨#[]⟩] 57 (0, 0)) := hb.box; have hc := fun i => blk_cell hbx i; have hz := fun i => blk_frozen hbx i; have B2 := Aside0.mk (hb.set 1 (.int .i64 q)); clear hbx hb)
    | (go_at_call 65; ((with_reducible refine (B2.out.name HE2.out HL.out (by omega) HZ.out).mono ?_)); rintro en w14 ⟨rfl, hb⟩; (try clear hc hz); have hbx : w14.heap[w2.heap.size]? = some (.cells #[.int .i64 7, .int .i64 q, .string ⟨#[]⟩, .string ⟨#[]⟩, .int .i64 0, .int .i64 0, .string ⟨#[]⟩] 57 (0, 0)) := hb.box; have hc := fun i => blk_cell hbx i; have hz := fun i => blk_frozen hbx i; have B3 := Aside0.mk (hb.set 2 (.string i)); clear hbx hb)
    | (go_at_call 67; ((with_reducible refine (B3.out.done HL.out (by omega) HED.out).mono ?_)); rintro en w30 ⟨rfl, hb⟩; (try clear hc hz); have hbx : w30.heap[w2.heap.size]? = some (.cells #[.int .i64 7, .int .i64 q, .string i, .string ⟨#[]⟩, .int .i64 0, .int .i64 0, .string ⟨#[]⟩] 57 (0, 0)) := hb.box; have hc := fun i => blk_cell hbx i; have hz := fun i => blk_frozen hbx i; have hrx := hb.res; have hrc := fun i => blk_cell hrx i; have hrz := fun i => blk_frozen hrx i; have BK := Aside0.mk hb.res; have HLow := Aside0.mk hb.low; clear hb hbx hrx))
  refine bodyPost_ret (results_ctt rfl _ _ w.heap.size 57 #[.int .i64 0, .int .i64 0, .string ⟨#[]⟩, .string ⟨#[]⟩, .int .i64 0, .int .i64 0, .string ⟨#[]⟩] (0, 0) _ rfl (blk_fill7 BK.out _ _ _ _ _ _ _) Tryd.underlying57 rfl (by kernel_rfl)) rfl ?_
  exact RepIs.mk_ (o := zRep) HD.out (low_fill7 HLow.out _ _ _ _ _ _ _)
set_option maxRecDepth 100000 in
set_option maxHeartbeats 8000000 in
theorem ref14r_zero (s : ByteArray) (w : World) (hs : s.size ≤ 140737488351232) (F : FormS) (y : Int) (hq : readB s = (some F, y)) (h1 : 0 < (fieldsB s).length) (v : ByteArray) (h8 : (fieldsB s)[0].f1 = v) (c8 : v ≠ ⟨#[56]⟩) (c9 : v ≠ ⟨#[57]⟩) :
    Calls Tryd.prog 32 #[.string s] w (RepIs (replyD s) w) := by
  have HZ : Aside0 (∀ y ∈ fieldsB s, y.f1.size ≤ 512) := ⟨fun y hy => (fieldsB_good s y hy).2.2⟩
  have HR := Aside0.mk (ref_read_walk s (w.alloc (.cells #[.int .i64 0, .int .i64 0, .string ⟨#[]⟩, .string ⟨#[]⟩, .int .i64 0, .int .i64 0, .string ⟨#[]⟩] 57)) hs)
  have hL : (fieldsB s).length ≤ 1000000 := by have := fieldsB_len s; omega
  obtain ⟨hx, hF, h0, h35, hv35⟩ := readB_some hq
  subst hx
  have HV : Aside0 ((F.vals 35).getD ⟨#[]⟩ = (fieldsB s)[0].f1) := ⟨by rw [hv35]; rfl⟩
  have he0 : F.e = 0 := by rw [hF]; rfl
  rw [hq] at HR
  have BK0 := Aside0.mk (blk_new w (.cells #[.int .i64 0, .int .i64 0, .string ⟨#[]⟩, .string ⟨#[]⟩, .int .i64 0, .int .i64 0, .string ⟨#[]⟩] 57))
  have HB0 : Aside0 (Below w.heap.size w (w.alloc (.cells #[.int .i64 0, .int .i64 0, .string ⟨#[]⟩, .string ⟨#[]⟩, .int .i64 0, .int .i64 0, .string ⟨#[]⟩] 57))) := ⟨(Below.refl _ _).alloc (Nat.le_refl _) _⟩
  have hws : (w.alloc (.cells #[.int .i64 0, .int .i64 0, .string ⟨#[]⟩, .string ⟨#[]⟩, .int .i64 0, .int .i64 0, .string ⟨#[]⟩] 57)).heap.size = w.heap.size + 1 := World.size_alloc _ _
  rw [h8] at HV
  have HD := Aside0.mk (replyD_bad hq HV.out (show takeP v F = ((zRep, 35, 120), F.mark 35) by unfold takeP; rw [if_neg c8, if_neg c9]) (by decide))
  have n1 : (v.toList == [56]) = false := by
    rw [ByteArray.toList_eq, beq_eq_false_iff_ne]
    exact fun e => c8 (ba_ext e)
  have n2 : (v.toList == [57]) = false := by
    rw [ByteArray.toList_eq, beq_eq_false_iff_ne]
    exact fun e => c9 (ba_ext e)
  have m1 : (v.toList != [56]) = true := by rw [bne, n1]; rfl
  have m2 : (v.toList != [57]) = true := by rw [bne, n2]; rfl
  have m3 : ¬ v.toList = [56] := by simpa using n1
  have m4 : ¬ v.toList = [57] := by simpa using n2
  clear hF hv35 h35 hq c8 c9
  generalize fieldsB s = L at *
  have HL := Aside0.mk hL
  have H8 := Aside0.mk h8
  have HE0 := Aside0.mk he0
  clear hL h8 he0
  go_enter Tryd.func32, Tryd.ntmps32
  go_wp2_with (first
    | (go_at_call 63; refine HR.out.mono ?_; rintro en w1 ⟨hb1, g, A, c, rfl, hf, hg⟩; rw [hws] at hg; have HG : Aside0 (w.heap.size < g) := ⟨by omega⟩; have HF := Aside0.mk hf; have BK1 := Aside0.mk (blk_below BK0.out hb1); have HB1 := Aside0.mk (HB0.out.trans (hb1.mono HB0.out.size)); clear hb1 hf hg HR BK0 HB0 hws)
    | (go_at_call 64; refine (ref_kind w1 HF.out HL.out (by decide) h1 HE0.out).mono ?_; rintro en w2 ⟨hen, hf2, ht⟩; rw [H8.out] at hen; obtain rfl := hen; have BK2 := Aside0.mk ((ht.block _ (blk_lt BK1.out) (fun e => e HG.out)).trans BK1.out); have HB2 := Aside0.mk (HB1.out.trans (ht.below (B := w.heap.size) (fun j hj => by have := HG.out; omega) HB1.out.size)); have hrc := fun i => blk_cell BK2.out i; have hrz := fun i => blk_frozen BK2.out i; clear hf2 ht))
  refine bodyPost_ret (results_ctt rfl _ _ w.heap.size 57 #[.int .i64 0, .int .i64 0, .string ⟨#[]⟩, .string ⟨#[]⟩, .int .i64 0, .int .i64 0, .string ⟨#[]⟩] (0, 0) _ rfl (blk_fill7 BK2.out _ _ _ _ _ _ _) Tryd.underlying57 rfl (by kernel_rfl)) rfl ?_
  exact RepIs.mk_ (o := zRep) HD.out (low_fill7 HB2.out _ _ _ _ _ _ _)
set_option maxRecDepth 100000 in
set_option maxHeartbeats 8000000 in
theorem ref14r_8 (s : ByteArray) (w : World) (hs : s.size ≤ 140737488351232) (F : FormS) (y : Int) (hq : readB s = (some F, y)) (h1 : 0 < (fieldsB s).length) (h8 : (fieldsB s)[0].f1 = ⟨#[56]⟩) :
    Calls Tryd.prog 32 #[.string s] w (RepIs (replyD s) w) := by
  have HZ : Aside0 (∀ y ∈ fieldsB s, y.f1.size ≤ 512) := ⟨fun y hy => (fieldsB_good s y hy).2.2⟩
  have HR := Aside0.mk (ref_read_walk s (w.alloc (.cells #[.int .i64 0, .int .i64 0, .string ⟨#[]⟩, .string ⟨#[]⟩, .int .i64 0, .int .i64 0, .string ⟨#[]⟩] 57)) hs)
  have hL : (fieldsB s).length ≤ 1000000 := by have := fieldsB_len s; omega
  obtain ⟨hx, hF, h0, h35, hv35⟩ := readB_some hq
  subst hx
  have HV : Aside0 ((F.vals 35).getD ⟨#[]⟩ = (fieldsB s)[0].f1) := ⟨by rw [hv35]; rfl⟩
  have he0 : F.e = 0 := by rw [hF]; rfl
  rw [hq] at HR
  have BK0 := Aside0.mk (blk_new w (.cells #[.int .i64 0, .int .i64 0, .string ⟨#[]⟩, .string ⟨#[]⟩, .int .i64 0, .int .i64 0, .string ⟨#[]⟩] 57))
  have HB0 : Aside0 (Below w.heap.size w (w.alloc (.cells #[.int .i64 0, .int .i64 0, .string ⟨#[]⟩, .string ⟨#[]⟩, .int .i64 0, .int .i64 0, .string ⟨#[]⟩] 57))) := ⟨(Below.refl _ _).alloc (Nat.le_refl _) _⟩
  have hws : (w.alloc (.cells #[.int .i64 0, .int .i64 0, .string ⟨#[]⟩, .string ⟨#[]⟩, .int .i64 0, .int .i64 0, .string ⟨#[]⟩] 57)).heap.size = w.heap.size + 1 := World.size_alloc _ _
  rw [h8] at HV
  obtain ⟨q, F1, E1⟩ : ∃ v F', askL (fun s => takeInt s 1 1099511627776) 0 (F.mark 35) 34 = (v, F') := ⟨_, _, rfl⟩
  obtain ⟨i, F2, E2⟩ : ∃ v F', askL takeName ⟨#[]⟩ F1 11 = (v, F') := ⟨_, _, rfl⟩
  obtain ⟨x, F3, E3⟩ : ∃ v F', askL takeName ⟨#[]⟩ F2 17 = (v, F') := ⟨_, _, rfl⟩
  obtain ⟨wd, F4, E4⟩ : ∃ v F', askL takeName ⟨#[]⟩ F3 150 = (v, F') := ⟨_, _, rfl⟩
  obtain ⟨kd, hkd⟩ : ∃ k, repKind wd = k := ⟨_, rfl⟩
  have HKd : Aside0 (kd ≤ 6) := ⟨hkd ▸ repKind_le wd⟩
  have HWd : Aside0 (∀ i : Nat, 1 ≤ i → i ≤ 6 → (rwordB (i : Int) = wd ↔ kd = i)) := ⟨fun i h1 h3 => by rw [← hkd]; exact refWord_kind wd i h1 h3⟩
  have HE := Aside0.mk (fun td ed h4 D => docE (td := td) (ed := ed) hq HV.out he0 E1 E2 E3 E4 h4 D)
  have H0 := Aside0.mk (fun h4 hk => doc0 hq HV.out E1 E2 E3 E4 h4 (hkd.trans hk))
  have H5 := Aside0.mk (fun q5 q6 F5 F6 td ed hk e5 e6 D => doc5 (q5 := q5) (q6 := q6) (F5 := F5) (F6 := F6) (td := td) (ed := ed) hq HV.out he0 E1 E2 E3 E4 (hkd.trans hk) e5 e6 D)
  have H6 := Aside0.mk (fun n F5 td ed hk e5 D => doc6 (n := n) (F5 := F5) (td := td) (ed := ed) hq HV.out he0 E1 E2 E3 E4 (hkd.trans hk) e5 D)
  have HK := Aside0.mk (fun td ed hk0 hk5 hk6 D => docK (td := td) (ed := ed) hq HV.out he0 E1 E2 E3 E4 hkd hk0 hk5 hk6 D)
  have HE1 := Aside0.mk E1
  have HE2 := Aside0.mk E2
  have HE3 := Aside0.mk E3
  have HE4 := Aside0.mk E4
  clear hF hv35 h35 hq E1 E2 E3 E4 hkd
  generalize replyD s = res at *
  generalize fieldsB s = L at *
  have HL := Aside0.mk hL
  have H8 := Aside0.mk h8
  have HE0 := Aside0.mk he0
  clear hL h8 he0
  go_enter Tryd.func32, Tryd.ntmps32
  go_wp2_with (first
    | (go_at_call 63; refine HR.out.mono ?_; rintro en w1 ⟨hb1, g, A, c, rfl, hf, hg⟩; rw [hws] at hg; have HG : Aside0 (w.heap.size < g) := ⟨by omega⟩; have HF := Aside0.mk hf; have BK1 := Aside0.mk (blk_below BK0.out hb1); have HB1 := Aside0.mk (HB0.out.trans (hb1.mono HB0.out.size)); clear hb1 hf hg HR BK0 HB0 hws)
    | (go_at_call 64; refine (ref_kind w1 HF.out HL.out (by decide) h1 HE0.out).mono ?_; rintro en w2 ⟨hen, hf2, ht⟩; rw [H8.out] at hen; obtain rfl := hen; have BK2 := Aside0.mk ((ht.block _ (blk_lt BK1.out) (fun e => e HG.out)).trans BK1.out); have HB2 := Aside0.mk (HB1.out.trans (ht.below (B := w.heap.size) (fun j hj => by have := HG.out; omega) HB1.out.size)); have B1 := Aside0.mk (RefBox.start (w := w) (T := 57) (Z0 := #[.int .i64 7, .int .i64 0, .string ⟨#[]⟩, .string ⟨#[]⟩, .int .i64 0, .int .i64 0, .string ⟨#[]⟩]) hf2 BK2.out HB2.out HG.out (Nat.le_refl _)); clear hf2 ht)
    | (go_at_call 66; ((with_reducible refine (B1.out.int HE1.out HL.out (by omega) HZ.out).mono ?_)); rintro en w13 ⟨rfl, hb⟩; (try clear hc hz); have hbx : w13.heap[w2.heap.size]? = some (.cells #[.int .i64 7, .int .i64 0, .string ⟨#[]⟩, .string ⟨#[]⟩, .int .i64 0, .int .i64 0, .string ⟨#[]⟩] 57 (0, 0)) := hb.box; have hc := fun i => blk_cell hbx i; have hz := fun i => blk_frozen hbx i; have B2 := Aside0.mk (hb.set 1 (.int .i64 q)); clear hbx hb)
    | (go_at_call 65; ((with_reducible refine (B2.out.name HE2.out HL.out (by omega) HZ.out).mono ?_)); rintro en w14 ⟨rfl, hb⟩; (try clear hc hz); have hbx : w14.heap[w2.heap.size]? = some (.cells #[.int .i64 7, .int .i64 q, .string ⟨#[]⟩, .string ⟨#[]⟩, .int .i64 0, .int .i64 0, .string ⟨#[]⟩] 57 (0, 0)) := hb.box; have hc := fun i => blk_cell hbx i; have hz := fun i => blk_frozen hbx i; have B3 := Aside0.mk (hb.set 2 (.string i)); clear hbx hb)
    | (go_at_call 65; ((with_reducible refine (B3.out.name HE3.out HL.out (by omega) HZ.out).mono ?_)); rintro en w15 ⟨rfl, hb⟩; (try clear hc hz); have hbx : w15.heap[w2.heap.size]? = some (.cells #[.int .i64 7, .int .i64 q, .string i, .string ⟨#[]⟩, .int .i64 0, .int .i64 0, .string ⟨#[]⟩] 57 (0, 0)) := hb.box; have hc := fun i => blk_cell hbx i; have hz := fun i => blk_frozen hbx i; have B4 := Aside0.mk (hb.set 3 (.string x)); clear hbx hb)
    | (go_at_call 65; ((with_reducible refine (B4.out.name HE4.out HL.out (by omega) HZ.out).mono ?_)); rintro en w16 ⟨rfl, hb⟩; (try clear hc hz); have hbx : w16.heap[w2.heap.size]? = some (.cells #[.int .i64 7, .int .i64 q, .string i, .string x, .int .i64 0, .int .i64 0, .string ⟨#[]⟩] 57 (0, 0)) := hb.box; have hc := fun i => blk_cell hbx i; have hz := fun i => blk_frozen hbx i; have B5 := Aside0.mk (hb); clear hbx hb))
  go_loopw [10] (fun v10 wr => ∃ j : Nat, v10 = .int .i64 (j : Int) ∧ 1 ≤ j ∧ j ≤ 7 ∧ Aside0 (RefBox w (fun j => j < g ∨ j = w2.heap.size) g A c L w.heap.size w2.heap.size 57 #[.int .i64 0, .int .i64 0, .string ⟨#[]⟩, .string ⟨#[]⟩, .int .i64 0, .int .i64 0, .string ⟨#[]⟩] F4 (0 + 1 + 1 + 1 + 1 + 1) #[.int .i64 (if kd < j then (kd : Int) else 0), .int .i64 q, .string i, .string x, .int .i64 0, .int .i64 0, .string ⟨#[]⟩] wr)) (fun v10 _ => 7 - (intOf v10).toNat)
  case atStart => exact ⟨1, rfl, Nat.le_refl _, by omega, ⟨by rw [show (if kd < 1 then (kd : Int) else 0) = 0 by split <;> omega]; exact B5.out.set 0 (.int .i64 0)⟩⟩
  case round =>
    clear B5
    (try clear hc hz)
    obtain ⟨j, rfl, hi1, hi5, B⟩ := hrel
    by_cases hlt : j ≤ 6
    · have hiff := HWd.out j hi1 hlt
      have k1 : decide ((j : Int) < 7) = true := by rw [decide_eq_true_eq]; omega
      have HWc : Aside0 (∀ W, Calls Tryd.prog 82 #[.int .i64 (j : Int)] W fun e w' => e = .returned (.string (rwordB (j : Int))) ∧ Below W.heap.size W w') := ⟨fun W => ref14_word_walk _ (by omega) W⟩
      generalize rwordB (j : Int) = r at *
      by_cases ce : kd = j
      · obtain rfl : r = wd := hiff.2 ce
        have HN : Aside0 ((if kd < j + 1 then (kd : Int) else 0) = (j : Int)) := ⟨by rw [if_pos (by omega), ce]⟩
        clear hiff ce
        go_wp2_with (go_at_call 82; refine (HWc.out _).mono ?_; rintro en w3 ⟨rfl, hd⟩; have B2 := Aside0.mk (B.out.below hd); clear hd; have c0 : w3.cell? ⟨w2.heap.size, 0, none⟩ = some (.int .i64 (if kd < j then (kd : Int) else 0)) := blk_cell B2.out.box 0; have z0 := blk_frozen B2.out.box 0)
        refine ⟨⟨j + 1, by rw [show ((j + 1 : Nat) : Int) = (j : Int) + 1 by omega], by omega, by omega, ⟨by rw [HN.out]; exact B2.out.set 0 (.int .i64 (j : Int))⟩⟩, ?_⟩
        show 7 - ((j : Int) + 1).toNat < 7 - ((j : Int)).toNat
        omega
      · have hne : ¬ r = wd := fun g => ce (hiff.1 g)
        have n1 : (r.toList == wd.toList) = false := by
          rw [ByteArray.toList_eq, ByteArray.toList_eq, beq_eq_false_iff_ne]
          exact fun e => hne (ba_ext e)
        have HN : Aside0 ((if kd < j + 1 then (kd : Int) else 0) = (if kd < j then (kd : Int) else 0)) := ⟨by
          by_cases q : kd < j
          · rw [if_pos q, if_pos (by omega)]
          · rw [if_neg q, if_neg (by omega)]⟩
        clear hiff ce hne
        go_wp2_with (go_at_call 82; refine (HWc.out _).mono ?_; rintro en w3 ⟨rfl, hd⟩; have B2 := Aside0.mk (B.out.below hd); clear hd)
        refine ⟨⟨j + 1, by rw [show ((j + 1 : Nat) : Int) = (j : Int) + 1 by omega], by omega, by omega, ⟨by rw [HN.out]; exact B2.out⟩⟩, ?_⟩
        show 7 - ((j : Int) + 1).toNat < 7 - ((j : Int)).toNat
        omega
    · have k1 : decide ((j : Int) < 7) = false := by rw [decide_eq_false_iff_not]; omega
      have hi : j = 7 := by omega
      subst hi
      have BL : Aside0 (RefBox w (fun j => j < g ∨ j = w2.heap.size) g A c L w.heap.size w2.heap.size 57 #[.int .i64 0, .int .i64 0, .string ⟨#[]⟩, .string ⟨#[]⟩, .int .i64 0, .int .i64 0, .string ⟨#[]⟩] F4 (0 + 1 + 1 + 1 + 1 + 1) #[.int .i64 (kd : Int), .int .i64 q, .string i, .string x, .int .i64 0, .int .i64 0, .string ⟨#[]⟩] wr) := ⟨by have := B.out; rwa [if_pos (by have := HKd.out; omega)] at this⟩
      clear B
      have hE := BL.out.form.c3
      have hk6 := HKd.out
      by_cases h4 : F4.e = 0
      · have tE : (F4.e == 0) = true := by rw [h4]; rfl
        rcases (show kd = 0 ∨ kd = 1 ∨ kd = 2 ∨ kd = 3 ∨ kd = 4 ∨ kd = 5 ∨ kd = 6 by omega) with rfl | rfl | rfl | rfl | rfl | rfl | rfl
        · have hbx : wr.heap[w2.heap.size]? = some (.cells #[.int .i64 0, .int .i64 q, .string i, .string x, .int .i64 0, .int .i64 0, .string ⟨#[]⟩] 57 (0, 0)) := BL.out.box
          have hc := fun i => blk_cell hbx i
          have hz := fun i => blk_frozen hbx i
          have B5 : Aside0 (RefBox w (fun j => j < g ∨ j = w2.heap.size) g A c L w.heap.size w2.heap.size 57 #[.int .i64 0, .int .i64 0, .string ⟨#[]⟩, .string ⟨#[]⟩, .int .i64 0, .int .i64 0, .string ⟨#[]⟩] F4 (0 + 1 + 1 + 1 + 1 + 1) #[.int .i64 0, .int .i64 q, .string i, .string x, .int .i64 0, .int .i64 0, .string ⟨#[]⟩] wr) := ⟨BL.out⟩
          have HD := Aside0.mk (H0.out h4 rfl)
          have hrx := BL.out.res
          have hrc := fun i => blk_cell hrx i
          have hrz := fun i => blk_frozen hrx i
          have BK := Aside0.mk BL.out.res
          have HLow := Aside0.mk BL.out.low
          clear hbx hrx BL h4
          go_wp2
          refine bodyPost_ret (results_ctt rfl _ _ w.heap.size 57 #[.int .i64 0, .int .i64 0, .string ⟨#[]⟩, .string ⟨#[]⟩, .int .i64 0, .int .i64 0, .string ⟨#[]⟩] (0, 0) _ rfl (blk_fill7 BK.out _ _ _ _ _ _ _) Tryd.underlying57 rfl (by kernel_rfl)) rfl ?_
          exact RepIs.mk_ (o := zRep) HD.out (low_fill7 HLow.out _ _ _ _ _ _ _)
        · have hbx : wr.heap[w2.heap.size]? = some (.cells #[.int .i64 1, .int .i64 q, .string i, .string x, .int .i64 0, .int .i64 0, .string ⟨#[]⟩] 57 (0, 0)) := BL.out.box
          have hc := fun i => blk_cell hbx i
          have hz := fun i => blk_frozen hbx i
          have B5 : Aside0 (RefBox w (fun j => j < g ∨ j = w2.heap.size) g A c L w.heap.size w2.heap.size 57 #[.int .i64 0, .int .i64 0, .string ⟨#[]⟩, .string ⟨#[]⟩, .int .i64 0, .int .i64 0, .string ⟨#[]⟩] F4 (0 + 1 + 1 + 1 + 1 + 1) #[.int .i64 1, .int .i64 q, .string i, .string x, .int .i64 0, .int .i64 0, .string ⟨#[]⟩] wr) := ⟨BL.out⟩
          obtain ⟨td, ed, D⟩ : ∃ t e, doneL F4 = (t, e) := ⟨_, _, rfl⟩
          obtain ⟨hbad, hgood⟩ := HK.out td ed (by decide) (by decide) (by decide) D
          have HED := Aside0.mk D
          by_cases ce : ed = 0
          · have HD := Aside0.mk (hgood ce)
            subst ce
            clear hbad hgood
            clear hbx BL h4 D
            go_wp2_with (first
              | (go_at_call 67; ((with_reducible refine (B5.out.done HL.out (by omega) HED.out).mono ?_)); rintro en w30 ⟨rfl, hb⟩; (try clear hc hz); have hbx : w30.heap[w2.heap.size]? = some (.cells #[.int .i64 1, .int .i64 q, .string i, .string x, .int .i64 0, .int .i64 0, .string ⟨#[]⟩] 57 (0, 0)) := hb.box; have hc := fun i => blk_cell hbx i; have hz := fun i => blk_frozen hbx i; have hrx := hb.res; have hrc := fun i => blk_cell hrx i; have hrz := fun i => blk_frozen hrx i; have BK := Aside0.mk hb.res; have HLow := Aside0.mk hb.low; clear hb hbx hrx))
            refine bodyPost_ret (results_ctt rfl _ _ w.heap.size 57 #[.int .i64 1, .int .i64 q, .string i, .string x, .int .i64 0, .int .i64 0, .string ⟨#[]⟩] (0, 0) _ rfl (blk_fill7 BK.out _ _ _ _ _ _ _) Tryd.underlying57 rfl (by kernel_rfl)) rfl ?_
            exact RepIs.mk_ (o := ⟨1, q, i, x, 0, 0, ⟨#[]⟩⟩) HD.out (low_fill7 HLow.out _ _ _ _ _ _ _)
          · have HD := Aside0.mk (hbad ce)
            have t1 : (ed != 0) = true := by rw [bne_iff_ne]; exact ce
            clear hbad hgood ce
            clear hbx BL h4 D
            go_wp2_with (first
              | (go_at_call 67; ((with_reducible refine (B5.out.done HL.out (by omega) HED.out).mono ?_)); rintro en w30 ⟨rfl, hb⟩; (try clear hc hz); have hbx : w30.heap[w2.heap.size]? = some (.cells #[.int .i64 1, .int .i64 q, .string i, .string x, .int .i64 0, .int .i64 0, .string ⟨#[]⟩] 57 (0, 0)) := hb.box; have hc := fun i => blk_cell hbx i; have hz := fun i => blk_frozen hbx i; have hrx := hb.res; have hrc := fun i => blk_cell hrx i; have hrz := fun i => blk_frozen hrx i; have BK := Aside0.mk hb.res; have HLow := Aside0.mk hb.low; clear hb hbx hrx))
            refine bodyPost_ret (results_ctt rfl _ _ w.heap.size 57 #[.int .i64 0, .int .i64 0, .string ⟨#[]⟩, .string ⟨#[]⟩, .int .i64 0, .int .i64 0, .string ⟨#[]⟩] (0, 0) _ rfl (blk_fill7 BK.out _ _ _ _ _ _ _) Tryd.underlying57 rfl (by kernel_rfl)) rfl ?_
            exact RepIs.mk_ (o := zRep) HD.out (low_fill7 HLow.out _ _ _ _ _ _ _)
        · have hbx : wr.heap[w2.heap.size]? = some (.cells #[.int .i64 2, .int .i64 q, .string i, .string x, .int .i64 0, .int .i64 0, .string ⟨#[]⟩] 57 (0, 0)) := BL.out.box
          have hc := fun i => blk_cell hbx i
          have hz := fun i => blk_frozen hbx i
          have B5 : Aside0 (RefBox w (fun j => j < g ∨ j = w2.heap.size) g A c L w.heap.size w2.heap.size 57 #[.int .i64 0, .int .i64 0, .string ⟨#[]⟩, .string ⟨#[]⟩, .int .i64 0, .int .i64 0, .string ⟨#[]⟩] F4 (0 + 1 + 1 + 1 + 1 + 1) #[.int .i64 2, .int .i64 q, .string i, .string x, .int .i64 0, .int .i64 0, .string ⟨#[]⟩] wr) := ⟨BL.out⟩
          obtain ⟨td, ed, D⟩ : ∃ t e, doneL F4 = (t, e) := ⟨_, _, rfl⟩
          obtain ⟨hbad, hgood⟩ := HK.out td ed (by decide) (by decide) (by decide) D
          have HED := Aside0.mk D
          by_cases ce : ed = 0
          · have HD := Aside0.mk (hgood ce)
            subst ce
            clear hbad hgood
            clear hbx BL h4 D
            go_wp2_with (first
              | (go_at_call 67; ((with_reducible refine (B5.out.done HL.out (by omega) HED.out).mono ?_)); rintro en w30 ⟨rfl, hb⟩; (try clear hc hz); have hbx : w30.heap[w2.heap.size]? = some (.cells #[.int .i64 2, .int .i64 q, .string i, .string x, .int .i64 0, .int .i64 0, .string ⟨#[]⟩] 57 (0, 0)) := hb.box; have hc := fun i => blk_cell hbx i; have hz := fun i => blk_frozen hbx i; have hrx := hb.res; have hrc := fun i => blk_cell hrx i; have hrz := fun i => blk_frozen hrx i; have BK := Aside0.mk hb.res; have HLow := Aside0.mk hb.low; clear hb hbx hrx))
            refine bodyPost_ret (results_ctt rfl _ _ w.heap.size 57 #[.int .i64 2, .int .i64 q, .string i, .string x, .int .i64 0, .int .i64 0, .string ⟨#[]⟩] (0, 0) _ rfl (blk_fill7 BK.out _ _ _ _ _ _ _) Tryd.underlying57 rfl (by kernel_rfl)) rfl ?_
            exact RepIs.mk_ (o := ⟨2, q, i, x, 0, 0, ⟨#[]⟩⟩) HD.out (low_fill7 HLow.out _ _ _ _ _ _ _)
          · have HD := Aside0.mk (hbad ce)
            have t1 : (ed != 0) = true := by rw [bne_iff_ne]; exact ce
            clear hbad hgood ce
            clear hbx BL h4 D
            go_wp2_with (first
              | (go_at_call 67; ((with_reducible refine (B5.out.done HL.out (by omega) HED.out).mono ?_)); rintro en w30 ⟨rfl, hb⟩; (try clear hc hz); have hbx : w30.heap[w2.heap.size]? = some (.cells #[.int .i64 2, .int .i64 q, .string i, .string x, .int .i64 0, .int .i64 0, .string ⟨#[]⟩] 57 (0, 0)) := hb.box; have hc := fun i => blk_cell hbx i; have hz := fun i => blk_frozen hbx i; have hrx := hb.res; have hrc := fun i => blk_cell hrx i; have hrz := fun i => blk_frozen hrx i; have BK := Aside0.mk hb.res; have HLow := Aside0.mk hb.low; clear hb hbx hrx))
            refine bodyPost_ret (results_ctt rfl _ _ w.heap.size 57 #[.int .i64 0, .int .i64 0, .string ⟨#[]⟩, .string ⟨#[]⟩, .int .i64 0, .int .i64 0, .string ⟨#[]⟩] (0, 0) _ rfl (blk_fill7 BK.out _ _ _ _ _ _ _) Tryd.underlying57 rfl (by kernel_rfl)) rfl ?_
            exact RepIs.mk_ (o := zRep) HD.out (low_fill7 HLow.out _ _ _ _ _ _ _)
        · have hbx : wr.heap[w2.heap.size]? = some (.cells #[.int .i64 3, .int .i64 q, .string i, .string x, .int .i64 0, .int .i64 0, .string ⟨#[]⟩] 57 (0, 0)) := BL.out.box
          have hc := fun i => blk_cell hbx i
          have hz := fun i => blk_frozen hbx i
          have B5 : Aside0 (RefBox w (fun j => j < g ∨ j = w2.heap.size) g A c L w.heap.size w2.heap.size 57 #[.int .i64 0, .int .i64 0, .string ⟨#[]⟩, .string ⟨#[]⟩, .int .i64 0, .int .i64 0, .string ⟨#[]⟩] F4 (0 + 1 + 1 + 1 + 1 + 1) #[.int .i64 3, .int .i64 q, .string i, .string x, .int .i64 0, .int .i64 0, .string ⟨#[]⟩] wr) := ⟨BL.out⟩
          obtain ⟨td, ed, D⟩ : ∃ t e, doneL F4 = (t, e) := ⟨_, _, rfl⟩
          obtain ⟨hbad, hgood⟩ := HK.out td ed (by decide) (by decide) (by decide) D
          have HED := Aside0.mk D
          by_cases ce : ed = 0
          · have HD := Aside0.mk (hgood ce)
            subst ce
            clear hbad hgood
            clear hbx BL h4 D
            go_wp2_with (first
              | (go_at_call 67; ((with_reducible refine (B5.out.done HL.out (by omega) HED.out).mono ?_)); rintro en w30 ⟨rfl, hb⟩; (try clear hc hz); have hbx : w30.heap[w2.heap.size]? = some (.cells #[.int .i64 3, .int .i64 q, .string i, .string x, .int .i64 0, .int .i64 0, .string ⟨#[]⟩] 57 (0, 0)) := hb.box; have hc := fun i => blk_cell hbx i; have hz := fun i => blk_frozen hbx i; have hrx := hb.res; have hrc := fun i => blk_cell hrx i; have hrz := fun i => blk_frozen hrx i; have BK := Aside0.mk hb.res; have HLow := Aside0.mk hb.low; clear hb hbx hrx))
            refine bodyPost_ret (results_ctt rfl _ _ w.heap.size 57 #[.int .i64 3, .int .i64 q, .string i, .string x, .int .i64 0, .int .i64 0, .string ⟨#[]⟩] (0, 0) _ rfl (blk_fill7 BK.out _ _ _ _ _ _ _) Tryd.underlying57 rfl (by kernel_rfl)) rfl ?_
            exact RepIs.mk_ (o := ⟨3, q, i, x, 0, 0, ⟨#[]⟩⟩) HD.out (low_fill7 HLow.out _ _ _ _ _ _ _)
          · have HD := Aside0.mk (hbad ce)
            have t1 : (ed != 0) = true := by rw [bne_iff_ne]; exact ce
            clear hbad hgood ce
            clear hbx BL h4 D
            go_wp2_with (first
              | (go_at_call 67; ((with_reducible refine (B5.out.done HL.out (by omega) HED.out).mono ?_)); rintro en w30 ⟨rfl, hb⟩; (try clear hc hz); have hbx : w30.heap[w2.heap.size]? = some (.cells #[.int .i64 3, .int .i64 q, .string i, .string x, .int .i64 0, .int .i64 0, .string ⟨#[]⟩] 57 (0, 0)) := hb.box; have hc := fun i => blk_cell hbx i; have hz := fun i => blk_frozen hbx i; have hrx := hb.res; have hrc := fun i => blk_cell hrx i; have hrz := fun i => blk_frozen hrx i; have BK := Aside0.mk hb.res; have HLow := Aside0.mk hb.low; clear hb hbx hrx))
            refine bodyPost_ret (results_ctt rfl _ _ w.heap.size 57 #[.int .i64 0, .int .i64 0, .string ⟨#[]⟩, .string ⟨#[]⟩, .int .i64 0, .int .i64 0, .string ⟨#[]⟩] (0, 0) _ rfl (blk_fill7 BK.out _ _ _ _ _ _ _) Tryd.underlying57 rfl (by kernel_rfl)) rfl ?_
            exact RepIs.mk_ (o := zRep) HD.out (low_fill7 HLow.out _ _ _ _ _ _ _)
        · have hbx : wr.heap[w2.heap.size]? = some (.cells #[.int .i64 4, .int .i64 q, .string i, .string x, .int .i64 0, .int .i64 0, .string ⟨#[]⟩] 57 (0, 0)) := BL.out.box
          have hc := fun i => blk_cell hbx i
          have hz := fun i => blk_frozen hbx i
          have B5 : Aside0 (RefBox w (fun j => j < g ∨ j = w2.heap.size) g A c L w.heap.size w2.heap.size 57 #[.int .i64 0, .int .i64 0, .string ⟨#[]⟩, .string ⟨#[]⟩, .int .i64 0, .int .i64 0, .string ⟨#[]⟩] F4 (0 + 1 + 1 + 1 + 1 + 1) #[.int .i64 4, .int .i64 q, .string i, .string x, .int .i64 0, .int .i64 0, .string ⟨#[]⟩] wr) := ⟨BL.out⟩
          obtain ⟨td, ed, D⟩ : ∃ t e, doneL F4 = (t, e) := ⟨_, _, rfl⟩
          obtain ⟨hbad, hgood⟩ := HK.out td ed (by decide) (by decide) (by decide) D
          have HED := Aside0.mk D
          by_cases ce : ed = 0
          · have HD := Aside0.mk (hgood ce)
            subst ce
            clear hbad hgood
            clear hbx BL h4 D
            go_wp2_with (first
              | (go_at_call 67; ((with_reducible refine (B5.out.done HL.out (by omega) HED.out).mono ?_)); rintro en w30 ⟨rfl, hb⟩; (try clear hc hz); have hbx : w30.heap[w2.heap.size]? = some (.cells #[.int .i64 4, .int .i64 q, .string i, .string x, .int .i64 0, .int .i64 0, .string ⟨#[]⟩] 57 (0, 0)) := hb.box; have hc := fun i => blk_cell hbx i; have hz := fun i => blk_frozen hbx i; have hrx := hb.res; have hrc := fun i => blk_cell hrx i; have hrz := fun i => blk_frozen hrx i; have BK := Aside0.mk hb.res; have HLow := Aside0.mk hb.low; clear hb hbx hrx))
            refine bodyPost_ret (results_ctt rfl _ _ w.heap.size 57 #[.int .i64 4, .int .i64 q, .string i, .string x, .int .i64 0, .int .i64 0, .string ⟨#[]⟩] (0, 0) _ rfl (blk_fill7 BK.out _ _ _ _ _ _ _) Tryd.underlying57 rfl (by kernel_rfl)) rfl ?_
            exact RepIs.mk_ (o := ⟨4, q, i, x, 0, 0, ⟨#[]⟩⟩) HD.out (low_fill7 HLow.out _ _ _ _ _ _ _)
          · have HD := Aside0.mk (hbad ce)
            have t1 : (ed != 0) = true := by rw [bne_iff_ne]; exact ce
            clear hbad hgood ce
            clear hbx BL h4 D
            go_wp2_with (first
              | (go_at_call 67; ((with_reducible refine (B5.out.done HL.out (by omega) HED.out).mono ?_)); rintro en w30 ⟨rfl, hb⟩; (try clear hc hz); have hbx : w30.heap[w2.heap.size]? = some (.cells #[.int .i64 4, .int .i64 q, .string i, .string x, .int .i64 0, .int .i64 0, .string ⟨#[]⟩] 57 (0, 0)) := hb.box; have hc := fun i => blk_cell hbx i; have hz := fun i => blk_frozen hbx i; have hrx := hb.res; have hrc := fun i => blk_cell hrx i; have hrz := fun i => blk_frozen hrx i; have BK := Aside0.mk hb.res; have HLow := Aside0.mk hb.low; clear hb hbx hrx))
            refine bodyPost_ret (results_ctt rfl _ _ w.heap.size 57 #[.int .i64 0, .int .i64 0, .string ⟨#[]⟩, .string ⟨#[]⟩, .int .i64 0, .int .i64 0, .string ⟨#[]⟩] (0, 0) _ rfl (blk_fill7 BK.out _ _ _ _ _ _ _) Tryd.underlying57 rfl (by kernel_rfl)) rfl ?_
            exact RepIs.mk_ (o := zRep) HD.out (low_fill7 HLow.out _ _ _ _ _ _ _)
        · have hbx : wr.heap[w2.heap.size]? = some (.cells #[.int .i64 5, .int .i64 q, .string i, .string x, .int .i64 0, .int .i64 0, .string ⟨#[]⟩] 57 (0, 0)) := BL.out.box
          have hc := fun i => blk_cell hbx i
          have hz := fun i => blk_frozen hbx i
          have B5 : Aside0 (RefBox w (fun j => j < g ∨ j = w2.heap.size) g A c L w.heap.size w2.heap.size 57 #[.int .i64 0, .int .i64 0, .string ⟨#[]⟩, .string ⟨#[]⟩, .int .i64 0, .int .i64 0, .string ⟨#[]⟩] F4 (0 + 1 + 1 + 1 + 1 + 1) #[.int .i64 5, .int .i64 q, .string i, .string x, .int .i64 0, .int .i64 0, .string ⟨#[]⟩] wr) := ⟨BL.out⟩
          obtain ⟨q5, F5, E5⟩ : ∃ v F', askL (fun s => takeInt s 1 1099511627776) 0 F4 32 = (v, F') := ⟨_, _, rfl⟩
          obtain ⟨q6, F6, E6⟩ : ∃ v F', askL (fun s => takeInt s 1 1099511627776) 0 F5 31 = (v, F') := ⟨_, _, rfl⟩
          obtain ⟨td, ed, D⟩ : ∃ t e, doneL F6 = (t, e) := ⟨_, _, rfl⟩
          obtain ⟨hbad, hgood⟩ := H5.out q5 q6 F5 F6 td ed rfl E5 E6 D
          have HED := Aside0.mk D
          have HE5 := Aside0.mk E5
          have HE6 := Aside0.mk E6
          by_cases ce : ed = 0
          · have HD := Aside0.mk (hgood ce)
            subst ce
            clear hbad hgood
            clear hbx BL h4 D E5 E6
            go_wp2_with (first
              | (go_at_call 66; ((with_reducible refine (B5.out.int HE5.out HL.out (by omega) HZ.out).mono ?_)); rintro en w17 ⟨rfl, hb⟩; (try clear hc hz); have hbx : w17.heap[w2.heap.size]? = some (.cells #[.int .i64 5, .int .i64 q, .string i, .string x, .int .i64 0, .int .i64 0, .string ⟨#[]⟩] 57 (0, 0)) := hb.box; have hc := fun i => blk_cell hbx i; have hz := fun i => blk_frozen hbx i; have B6 := Aside0.mk (hb.set 4 (.int .i64 q5)); clear hbx hb)
              | (go_at_call 66; ((with_reducible refine (B6.out.int HE6.out HL.out (by omega) HZ.out).mono ?_)); rintro en w18 ⟨rfl, hb⟩; (try clear hc hz); have hbx : w18.heap[w2.heap.size]? = some (.cells #[.int .i64 5, .int .i64 q, .string i, .string x, .int .i64 q5, .int .i64 0, .string ⟨#[]⟩] 57 (0, 0)) := hb.box; have hc := fun i => blk_cell hbx i; have hz := fun i => blk_frozen hbx i; have B7 := Aside0.mk (hb.set 5 (.int .i64 q6)); clear hbx hb)
              | (go_at_call 67; ((with_reducible refine (B7.out.done HL.out (by omega) HED.out).mono ?_)); rintro en w30 ⟨rfl, hb⟩; (try clear hc hz); have hbx : w30.heap[w2.heap.size]? = some (.cells #[.int .i64 5, .int .i64 q, .string i, .string x, .int .i64 q5, .int .i64 q6, .string ⟨#[]⟩] 57 (0, 0)) := hb.box; have hc := fun i => blk_cell hbx i; have hz := fun i => blk_frozen hbx i; have hrx := hb.res; have hrc := fun i => blk_cell hrx i; have hrz := fun i => blk_frozen hrx i; have BK := Aside0.mk hb.res; have HLow := Aside0.mk hb.low; clear hb hbx hrx))
            refine bodyPost_ret (results_ctt rfl _ _ w.heap.size 57 #[.int .i64 5, .int .i64 q, .string i, .string x, .int .i64 q5, .int .i64 q6, .string ⟨#[]⟩] (0, 0) _ rfl (blk_fill7 BK.out _ _ _ _ _ _ _) Tryd.underlying57 rfl (by kernel_rfl)) rfl ?_
            exact RepIs.mk_ (o := ⟨5, q, i, x, q5, q6, ⟨#[]⟩⟩) HD.out (low_fill7 HLow.out _ _ _ _ _ _ _)
          · have HD := Aside0.mk (hbad ce)
            have t1 : (ed != 0) = true := by rw [bne_iff_ne]; exact ce
            clear hbad hgood ce
            clear hbx BL h4 D E5 E6
            go_wp2_with (first
              | (go_at_call 66; ((with_reducible refine (B5.out.int HE5.out HL.out (by omega) HZ.out).mono ?_)); rintro en w17 ⟨rfl, hb⟩; (try clear hc hz); have hbx : w17.heap[w2.heap.size]? = some (.cells #[.int .i64 5, .int .i64 q, .string i, .string x, .int .i64 0, .int .i64 0, .string ⟨#[]⟩] 57 (0, 0)) := hb.box; have hc := fun i => blk_cell hbx i; have hz := fun i => blk_frozen hbx i; have B6 := Aside0.mk (hb.set 4 (.int .i64 q5)); clear hbx hb)
              | (go_at_call 66; ((with_reducible refine (B6.out.int HE6.out HL.out (by omega) HZ.out).mono ?_)); rintro en w18 ⟨rfl, hb⟩; (try clear hc hz); have hbx : w18.heap[w2.heap.size]? = some (.cells #[.int .i64 5, .int .i64 q, .string i, .string x, .int .i64 q5, .int .i64 0, .string ⟨#[]⟩] 57 (0, 0)) := hb.box; have hc := fun i => blk_cell hbx i; have hz := fun i => blk_frozen hbx i; have B7 := Aside0.mk (hb.set 5 (.int .i64 q6)); clear hbx hb)
              | (go_at_call 67; ((with_reducible refine (B7.out.done HL.out (by omega) HED.out).mono ?_)); rintro en w30 ⟨rfl, hb⟩; (try clear hc hz); have hbx : w30.heap[w2.heap.size]? = some (.cells #[.int .i64 5, .int .i64 q, .string i, .string x, .int .i64 q5, .int .i64 q6, .string ⟨#[]⟩] 57 (0, 0)) := hb.box; have hc := fun i => blk_cell hbx i; have hz := fun i => blk_frozen hbx i; have hrx := hb.res; have hrc := fun i => blk_cell hrx i; have hrz := fun i => blk_frozen hrx i; have BK := Aside0.mk hb.res; have HLow := Aside0.mk hb.low; clear hb hbx hrx))
            refine bodyPost_ret (results_ctt rfl _ _ w.heap.size 57 #[.int .i64 0, .int .i64 0, .string ⟨#[]⟩, .string ⟨#[]⟩, .int .i64 0, .int .i64 0, .string ⟨#[]⟩] (0, 0) _ rfl (blk_fill7 BK.out _ _ _ _ _ _ _) Tryd.underlying57 rfl (by kernel_rfl)) rfl ?_
            exact RepIs.mk_ (o := zRep) HD.out (low_fill7 HLow.out _ _ _ _ _ _ _)
        · have hbx : wr.heap[w2.heap.size]? = some (.cells #[.int .i64 6, .int .i64 q, .string i, .string x, .int .i64 0, .int .i64 0, .string ⟨#[]⟩] 57 (0, 0)) := BL.out.box
          have hc := fun i => blk_cell hbx i
          have hz := fun i => blk_frozen hbx i
          have B5 : Aside0 (RefBox w (fun j => j < g ∨ j = w2.heap.size) g A c L w.heap.size w2.heap.size 57 #[.int .i64 0, .int .i64 0, .string ⟨#[]⟩, .string ⟨#[]⟩, .int .i64 0, .int .i64 0, .string ⟨#[]⟩] F4 (0 + 1 + 1 + 1 + 1 + 1) #[.int .i64 6, .int .i64 q, .string i, .string x, .int .i64 0, .int .i64 0, .string ⟨#[]⟩] wr) := ⟨BL.out⟩
          obtain ⟨nn, F5, E5⟩ : ∃ v F', askL takeName ⟨#[]⟩ F4 19 = (v, F') := ⟨_, _, rfl⟩
          obtain ⟨td, ed, D⟩ : ∃ t e, doneL F5 = (t, e) := ⟨_, _, rfl⟩
          obtain ⟨hbad, hgood⟩ := H6.out nn F5 td ed rfl E5 D
          have HED := Aside0.mk D
          have HE5 := Aside0.mk E5
          by_cases ce : ed = 0
          · have HD := Aside0.mk (hgood ce)
            subst ce
            clear hbad hgood
            clear hbx BL h4 D E5
            go_wp2_with (first
              | (go_at_call 65; ((with_reducible refine (B5.out.name HE5.out HL.out (by omega) HZ.out).mono ?_)); rintro en w17 ⟨rfl, hb⟩; (try clear hc hz); have hbx : w17.heap[w2.heap.size]? = some (.cells #[.int .i64 6, .int .i64 q, .string i, .string x, .int .i64 0, .int .i64 0, .string ⟨#[]⟩] 57 (0, 0)) := hb.box; have hc := fun i => blk_cell hbx i; have hz := fun i => blk_frozen hbx i; have B6 := Aside0.mk (hb.set 6 (.string nn)); clear hbx hb)
              | (go_at_call 67; ((with_reducible refine (B6.out.done HL.out (by omega) HED.out).mono ?_)); rintro en w30 ⟨rfl, hb⟩; (try clear hc hz); have hbx : w30.heap[w2.heap.size]? = some (.cells #[.int .i64 6, .int .i64 q, .string i, .string x, .int .i64 0, .int .i64 0, .string nn] 57 (0, 0)) := hb.box; have hc := fun i => blk_cell hbx i; have hz := fun i => blk_frozen hbx i; have hrx := hb.res; have hrc := fun i => blk_cell hrx i; have hrz := fun i => blk_frozen hrx i; have BK := Aside0.mk hb.res; have HLow := Aside0.mk hb.low; clear hb hbx hrx))
            refine bodyPost_ret (results_ctt rfl _ _ w.heap.size 57 #[.int .i64 6, .int .i64 q, .string i, .string x, .int .i64 0, .int .i64 0, .string nn] (0, 0) _ rfl (blk_fill7 BK.out _ _ _ _ _ _ _) Tryd.underlying57 rfl (by kernel_rfl)) rfl ?_
            exact RepIs.mk_ (o := ⟨6, q, i, x, 0, 0, nn⟩) HD.out (low_fill7 HLow.out _ _ _ _ _ _ _)
          · have HD := Aside0.mk (hbad ce)
            have t1 : (ed != 0) = true := by rw [bne_iff_ne]; exact ce
            clear hbad hgood ce
            clear hbx BL h4 D E5
            go_wp2_with (first
              | (go_at_call 65; ((with_reducible refine (B5.out.name HE5.out HL.out (by omega) HZ.out).mono ?_)); rintro en w17 ⟨rfl, hb⟩; (try clear hc hz); have hbx : w17.heap[w2.heap.size]? = some (.cells #[.int .i64 6, .int .i64 q, .string i, .string x, .int .i64 0, .int .i64 0, .string ⟨#[]⟩] 57 (0, 0)) := hb.box; have hc := fun i => blk_cell hbx i; have hz := fun i => blk_frozen hbx i; have B6 := Aside0.mk (hb.set 6 (.string nn)); clear hbx hb)
              | (go_at_call 67; ((with_reducible refine (B6.out.done HL.out (by omega) HED.out).mono ?_)); rintro en w30 ⟨rfl, hb⟩; (try clear hc hz); have hbx : w30.heap[w2.heap.size]? = some (.cells #[.int .i64 6, .int .i64 q, .string i, .string x, .int .i64 0, .int .i64 0, .string nn] 57 (0, 0)) := hb.box; have hc := fun i => blk_cell hbx i; have hz := fun i => blk_frozen hbx i; have hrx := hb.res; have hrc := fun i => blk_cell hrx i; have hrz := fun i => blk_frozen hrx i; have BK := Aside0.mk hb.res; have HLow := Aside0.mk hb.low; clear hb hbx hrx))
            refine bodyPost_ret (results_ctt rfl _ _ w.heap.size 57 #[.int .i64 0, .int .i64 0, .string ⟨#[]⟩, .string ⟨#[]⟩, .int .i64 0, .int .i64 0, .string ⟨#[]⟩] (0, 0) _ rfl (blk_fill7 BK.out _ _ _ _ _ _ _) Tryd.underlying57 rfl (by kernel_rfl)) rfl ?_
            exact RepIs.mk_ (o := zRep) HD.out (low_fill7 HLow.out _ _ _ _ _ _ _)
      · have tE : (F4.e == 0) = false := by rw [beq_eq_false_iff_ne]; exact h4
        rcases (show kd = 0 ∨ kd = 1 ∨ kd = 2 ∨ kd = 3 ∨ kd = 4 ∨ kd = 5 ∨ kd = 6 by omega) with rfl | rfl | rfl | rfl | rfl | rfl | rfl
        · have hbx : wr.heap[w2.heap.size]? = some (.cells #[.int .i64 0, .int .i64 q, .string i, .string x, .int .i64 0, .int .i64 0, .string ⟨#[]⟩] 57 (0, 0)) := BL.out.box
          have hc := fun i => blk_cell hbx i
          have hz := fun i => blk_frozen hbx i
          have B5 : Aside0 (RefBox w (fun j => j < g ∨ j = w2.heap.size) g A c L w.heap.size w2.heap.size 57 #[.int .i64 0, .int .i64 0, .string ⟨#[]⟩, .string ⟨#[]⟩, .int .i64 0, .int .i64 0, .string ⟨#[]⟩] F4 (0 + 1 + 1 + 1 + 1 + 1) #[.int .i64 0, .int .i64 q, .string i, .string x, .int .i64 0, .int .i64 0, .string ⟨#[]⟩] wr) := ⟨BL.out⟩
          obtain ⟨td, ed, D⟩ : ∃ t e, doneL F4 = (t, e) := ⟨_, _, rfl⟩
          obtain ⟨hr, hne⟩ := HE.out td ed h4 D
          have HD := Aside0.mk hr
          have HED := Aside0.mk D
          have t1 : (ed != 0) = true := by rw [bne_iff_ne]; exact hne
          clear hr hne
          clear hbx BL h4 D
          go_wp2_with (first
            | (go_at_call 67; ((with_reducible refine (B5.out.done HL.out (by omega) HED.out).mono ?_)); rintro en w30 ⟨rfl, hb⟩; (try clear hc hz); have hbx : w30.heap[w2.heap.size]? = some (.cells #[.int .i64 0, .int .i64 q, .string i, .string x, .int .i64 0, .int .i64 0, .string ⟨#[]⟩] 57 (0, 0)) := hb.box; have hc := fun i => blk_cell hbx i; have hz := fun i => blk_frozen hbx i; have hrx := hb.res; have hrc := fun i => blk_cell hrx i; have hrz := fun i => blk_frozen hrx i; have BK := Aside0.mk hb.res; have HLow := Aside0.mk hb.low; clear hb hbx hrx))
          refine bodyPost_ret (results_ctt rfl _ _ w.heap.size 57 #[.int .i64 0, .int .i64 0, .string ⟨#[]⟩, .string ⟨#[]⟩, .int .i64 0, .int .i64 0, .string ⟨#[]⟩] (0, 0) _ rfl (blk_fill7 BK.out _ _ _ _ _ _ _) Tryd.underlying57 rfl (by kernel_rfl)) rfl ?_
          exact RepIs.mk_ (o := zRep) HD.out (low_fill7 HLow.out _ _ _ _ _ _ _)
        · have hbx : wr.heap[w2.heap.size]? = some (.cells #[.int .i64 1, .int .i64 q, .string i, .string x, .int .i64 0, .int .i64 0, .string ⟨#[]⟩] 57 (0, 0)) := BL.out.box
          have hc := fun i => blk_cell hbx i
          have hz := fun i => blk_frozen hbx i
          have B5 : Aside0 (RefBox w (fun j => j < g ∨ j = w2.heap.size) g A c L w.heap.size w2.heap.size 57 #[.int .i64 0, .int .i64 0, .string ⟨#[]⟩, .string ⟨#[]⟩, .int .i64 0, .int .i64 0, .string ⟨#[]⟩] F4 (0 + 1 + 1 + 1 + 1 + 1) #[.int .i64 1, .int .i64 q, .string i, .string x, .int .i64 0, .int .i64 0, .string ⟨#[]⟩] wr) := ⟨BL.out⟩
          obtain ⟨td, ed, D⟩ : ∃ t e, doneL F4 = (t, e) := ⟨_, _, rfl⟩
          obtain ⟨hbad, hgood⟩ := HK.out td ed (by decide) (by decide) (by decide) D
          have HED := Aside0.mk D
          by_cases ce : ed = 0
          · have HD := Aside0.mk (hgood ce)
            subst ce
            clear hbad hgood
            clear hbx BL h4 D
            go_wp2_with (first
              | (go_at_call 67; ((with_reducible refine (B5.out.done HL.out (by omega) HED.out).mono ?_)); rintro en w30 ⟨rfl, hb⟩; (try clear hc hz); have hbx : w30.heap[w2.heap.size]? = some (.cells #[.int .i64 1, .int .i64 q, .string i, .string x, .int .i64 0, .int .i64 0, .string ⟨#[]⟩] 57 (0, 0)) := hb.box; have hc := fun i => blk_cell hbx i; have hz := fun i => blk_frozen hbx i; have hrx := hb.res; have hrc := fun i => blk_cell hrx i; have hrz := fun i => blk_frozen hrx i; have BK := Aside0.mk hb.res; have HLow := Aside0.mk hb.low; clear hb hbx hrx))
            refine bodyPost_ret (results_ctt rfl _ _ w.heap.size 57 #[.int .i64 1, .int .i64 q, .string i, .string x, .int .i64 0, .int .i64 0, .string ⟨#[]⟩] (0, 0) _ rfl (blk_fill7 BK.out _ _ _ _ _ _ _) Tryd.underlying57 rfl (by kernel_rfl)) rfl ?_
            exact RepIs.mk_ (o := ⟨1, q, i, x, 0, 0, ⟨#[]⟩⟩) HD.out (low_fill7 HLow.out _ _ _ _ _ _ _)
          · have HD := Aside0.mk (hbad ce)
            have t1 : (ed != 0) = true := by rw [bne_iff_ne]; exact ce
            clear hbad hgood ce
            clear hbx BL h4 D
            go_wp2_with (first
              | (go_at_call 67; ((with_reducible refine (B5.out.done HL.out (by omega) HED.out).mono ?_)); rintro en w30 ⟨rfl, hb⟩; (try clear hc hz); have hbx : w30.heap[w2.heap.size]? = some (.cells #[.int .i64 1, .int .i64 q, .string i, .string x, .int .i64 0, .int .i64 0, .string ⟨#[]⟩] 57 (0, 0)) := hb.box; have hc := fun i => blk_cell hbx i; have hz := fun i => blk_frozen hbx i; have hrx := hb.res; have hrc := fun i => blk_cell hrx i; have hrz := fun i => blk_frozen hrx i; have BK := Aside0.mk hb.res; have HLow := Aside0.mk hb.low; clear hb hbx hrx))
            refine bodyPost_ret (results_ctt rfl _ _ w.heap.size 57 #[.int .i64 0, .int .i64 0, .string ⟨#[]⟩, .string ⟨#[]⟩, .int .i64 0, .int .i64 0, .string ⟨#[]⟩] (0, 0) _ rfl (blk_fill7 BK.out _ _ _ _ _ _ _) Tryd.underlying57 rfl (by kernel_rfl)) rfl ?_
            exact RepIs.mk_ (o := zRep) HD.out (low_fill7 HLow.out _ _ _ _ _ _ _)
        · have hbx : wr.heap[w2.heap.size]? = some (.cells #[.int .i64 2, .int .i64 q, .string i, .string x, .int .i64 0, .int .i64 0, .string ⟨#[]⟩] 57 (0, 0)) := BL.out.box
          have hc := fun i => blk_cell hbx i
          have hz := fun i => blk_frozen hbx i
          have B5 : Aside0 (RefBox w (fun j => j < g ∨ j = w2.heap.size) g A c L w.heap.size w2.heap.size 57 #[.int .i64 0, .int .i64 0, .string ⟨#[]⟩, .string ⟨#[]⟩, .int .i64 0, .int .i64 0, .string ⟨#[]⟩] F4 (0 + 1 + 1 + 1 + 1 + 1) #[.int .i64 2, .int .i64 q, .string i, .string x, .int .i64 0, .int .i64 0, .string ⟨#[]⟩] wr) := ⟨BL.out⟩
          obtain ⟨td, ed, D⟩ : ∃ t e, doneL F4 = (t, e) := ⟨_, _, rfl⟩
          obtain ⟨hbad, hgood⟩ := HK.out td ed (by decide) (by decide) (by decide) D
          have HED := Aside0.mk D
          by_cases ce : ed = 0
          · have HD := Aside0.mk (hgood ce)
            subst ce
            clear hbad hgood
            clear hbx BL h4 D
            go_wp2_with (first
              | (go_at_call 67; ((with_reducible refine (B5.out.done HL.out (by omega) HED.out).mono ?_)); rintro en w30 ⟨rfl, hb⟩; (try clear hc hz); have hbx : w30.heap[w2.heap.size]? = some (.cells #[.int .i64 2, .int .i64 q, .string i, .string x, .int .i64 0, .int .i64 0, .string ⟨#[]⟩] 57 (0, 0)) := hb.box; have hc := fun i => blk_cell hbx i; have hz := fun i => blk_frozen hbx i; have hrx := hb.res; have hrc := fun i => blk_cell hrx i; have hrz := fun i => blk_frozen hrx i; have BK := Aside0.mk hb.res; have HLow := Aside0.mk hb.low; clear hb hbx hrx))
            refine bodyPost_ret (results_ctt rfl _ _ w.heap.size 57 #[.int .i64 2, .int .i64 q, .string i, .string x, .int .i64 0, .int .i64 0, .string ⟨#[]⟩] (0, 0) _ rfl (blk_fill7 BK.out _ _ _ _ _ _ _) Tryd.underlying57 rfl (by kernel_rfl)) rfl ?_
            exact RepIs.mk_ (o := ⟨2, q, i, x, 0, 0, ⟨#[]⟩⟩) HD.out (low_fill7 HLow.out _ _ _ _ _ _ _)
          · have HD := Aside0.mk (hbad ce)
            have t1 : (ed != 0) = true := by rw [bne_iff_ne]; exact ce
            clear hbad hgood ce
            clear hbx BL h4 D
            go_wp2_with (first
              | (go_at_call 67; ((with_reducible refine (B5.out.done HL.out (by omega) HED.out).mono ?_)); rintro en w30 ⟨rfl, hb⟩; (try clear hc hz); have hbx : w30.heap[w2.heap.size]? = some (.cells #[.int .i64 2, .int .i64 q, .string i, .string x, .int .i64 0, .int .i64 0, .string ⟨#[]⟩] 57 (0, 0)) := hb.box; have hc := fun i => blk_cell hbx i; have hz := fun i => blk_frozen hbx i; have hrx := hb.res; have hrc := fun i => blk_cell hrx i; have hrz := fun i => blk_frozen hrx i; have BK := Aside0.mk hb.res; have HLow := Aside0.mk hb.low; clear hb hbx hrx))
            refine bodyPost_ret (results_ctt rfl _ _ w.heap.size 57 #[.int .i64 0, .int .i64 0, .string ⟨#[]⟩, .string ⟨#[]⟩, .int .i64 0, .int .i64 0, .string ⟨#[]⟩] (0, 0) _ rfl (blk_fill7 BK.out _ _ _ _ _ _ _) Tryd.underlying57 rfl (by kernel_rfl)) rfl ?_
            exact RepIs.mk_ (o := zRep) HD.out (low_fill7 HLow.out _ _ _ _ _ _ _)
        · have hbx : wr.heap[w2.heap.size]? = some (.cells #[.int .i64 3, .int .i64 q, .string i, .string x, .int .i64 0, .int .i64 0, .string ⟨#[]⟩] 57 (0, 0)) := BL.out.box
          have hc := fun i => blk_cell hbx i
          have hz := fun i => blk_frozen hbx i
          have B5 : Aside0 (RefBox w (fun j => j < g ∨ j = w2.heap.size) g A c L w.heap.size w2.heap.size 57 #[.int .i64 0, .int .i64 0, .string ⟨#[]⟩, .string ⟨#[]⟩, .int .i64 0, .int .i64 0, .string ⟨#[]⟩] F4 (0 + 1 + 1 + 1 + 1 + 1) #[.int .i64 3, .int .i64 q, .string i, .string x, .int .i64 0, .int .i64 0, .string ⟨#[]⟩] wr) := ⟨BL.out⟩
          obtain ⟨td, ed, D⟩ : ∃ t e, doneL F4 = (t, e) := ⟨_, _, rfl⟩
          obtain ⟨hbad, hgood⟩ := HK.out td ed (by decide) (by decide) (by decide) D
          have HED := Aside0.mk D
          by_cases ce : ed = 0
          · have HD := Aside0.mk (hgood ce)
            subst ce
            clear hbad hgood
            clear hbx BL h4 D
            go_wp2_with (first
              | (go_at_call 67; ((with_reducible refine (B5.out.done HL.out (by omega) HED.out).mono ?_)); rintro en w30 ⟨rfl, hb⟩; (try clear hc hz); have hbx : w30.heap[w2.heap.size]? = some (.cells #[.int .i64 3, .int .i64 q, .string i, .string x, .int .i64 0, .int .i64 0, .string ⟨#[]⟩] 57 (0, 0)) := hb.box; have hc := fun i => blk_cell hbx i; have hz := fun i => blk_frozen hbx i; have hrx := hb.res; have hrc := fun i => blk_cell hrx i; have hrz := fun i => blk_frozen hrx i; have BK := Aside0.mk hb.res; have HLow := Aside0.mk hb.low; clear hb hbx hrx))
            refine bodyPost_ret (results_ctt rfl _ _ w.heap.size 57 #[.int .i64 3, .int .i64 q, .string i, .string x, .int .i64 0, .int .i64 0, .string ⟨#[]⟩] (0, 0) _ rfl (blk_fill7 BK.out _ _ _ _ _ _ _) Tryd.underlying57 rfl (by kernel_rfl)) rfl ?_
            exact RepIs.mk_ (o := ⟨3, q, i, x, 0, 0, ⟨#[]⟩⟩) HD.out (low_fill7 HLow.out _ _ _ _ _ _ _)
          · have HD := Aside0.mk (hbad ce)
            have t1 : (ed != 0) = true := by rw [bne_iff_ne]; exact ce
            clear hbad hgood ce
            clear hbx BL h4 D
            go_wp2_with (first
              | (go_at_call 67; ((with_reducible refine (B5.out.done HL.out (by omega) HED.out).mono ?_)); rintro en w30 ⟨rfl, hb⟩; (try clear hc hz); have hbx : w30.heap[w2.heap.size]? = some (.cells #[.int .i64 3, .int .i64 q, .string i, .string x, .int .i64 0, .int .i64 0, .string ⟨#[]⟩] 57 (0, 0)) := hb.box; have hc := fun i => blk_cell hbx i; have hz := fun i => blk_frozen hbx i; have hrx := hb.res; have hrc := fun i => blk_cell hrx i; have hrz := fun i => blk_frozen hrx i; have BK := Aside0.mk hb.res; have HLow := Aside0.mk hb.low; clear hb hbx hrx))
            refine bodyPost_ret (results_ctt rfl _ _ w.heap.size 57 #[.int .i64 0, .int .i64 0, .string ⟨#[]⟩, .string ⟨#[]⟩, .int .i64 0, .int .i64 0, .string ⟨#[]⟩] (0, 0) _ rfl (blk_fill7 BK.out _ _ _ _ _ _ _) Tryd.underlying57 rfl (by kernel_rfl)) rfl ?_
            exact RepIs.mk_ (o := zRep) HD.out (low_fill7 HLow.out _ _ _ _ _ _ _)
        · have hbx : wr.heap[w2.heap.size]? = some (.cells #[.int .i64 4, .int .i64 q, .string i, .string x, .int .i64 0, .int .i64 0, .string ⟨#[]⟩] 57 (0, 0)) := BL.out.box
          have hc := fun i => blk_cell hbx i
          have hz := fun i => blk_frozen hbx i
          have B5 : Aside0 (RefBox w (fun j => j < g ∨ j = w2.heap.size) g A c L w.heap.size w2.heap.size 57 #[.int .i64 0, .int .i64 0, .string ⟨#[]⟩, .string ⟨#[]⟩, .int .i64 0, .int .i64 0, .string ⟨#[]⟩] F4 (0 + 1 + 1 + 1 + 1 + 1) #[.int .i64 4, .int .i64 q, .string i, .string x, .int .i64 0, .int .i64 0, .string ⟨#[]⟩] wr) := ⟨BL.out⟩
          obtain ⟨td, ed, D⟩ : ∃ t e, doneL F4 = (t, e) := ⟨_, _, rfl⟩
          obtain ⟨hbad, hgood⟩ := HK.out td ed (by decide) (by decide) (by decide) D
          have HED := Aside0.mk D
          by_cases ce : ed = 0
          · have HD := Aside0.mk (hgood ce)
            subst ce
            clear hbad hgood
            clear hbx BL h4 D
            go_wp2_with (first
              | (go_at_call 67; ((with_reducible refine (B5.out.done HL.out (by omega) HED.out).mono ?_)); rintro en w30 ⟨rfl, hb⟩; (try clear hc hz); have hbx : w30.heap[w2.heap.size]? = some (.cells #[.int .i64 4, .int .i64 q, .string i, .string x, .int .i64 0, .int .i64 0, .string ⟨#[]⟩] 57 (0, 0)) := hb.box; have hc := fun i => blk_cell hbx i; have hz := fun i => blk_frozen hbx i; have hrx := hb.res; have hrc := fun i => blk_cell hrx i; have hrz := fun i => blk_frozen hrx i; have BK := Aside0.mk hb.res; have HLow := Aside0.mk hb.low; clear hb hbx hrx))
            refine bodyPost_ret (results_ctt rfl _ _ w.heap.size 57 #[.int .i64 4, .int .i64 q, .string i, .string x, .int .i64 0, .int .i64 0, .string ⟨#[]⟩] (0, 0) _ rfl (blk_fill7 BK.out _ _ _ _ _ _ _) Tryd.underlying57 rfl (by kernel_rfl)) rfl ?_
            exact RepIs.mk_ (o := ⟨4, q, i, x, 0, 0, ⟨#[]⟩⟩) HD.out (low_fill7 HLow.out _ _ _ _ _ _ _)
          · have HD := Aside0.mk (hbad ce)
            have t1 : (ed != 0) = true := by rw [bne_iff_ne]; exact ce
            clear hbad hgood ce
            clear hbx BL h4 D
            go_wp2_with (first
              | (go_at_call 67; ((with_reducible refine (B5.out.done HL.out (by omega) HED.out).mono ?_)); rintro en w30 ⟨rfl, hb⟩; (try clear hc hz); have hbx : w30.heap[w2.heap.size]? = some (.cells #[.int .i64 4, .int .i64 q, .string i, .string x, .int .i64 0, .int .i64 0, .string ⟨#[]⟩] 57 (0, 0)) := hb.box; have hc := fun i => blk_cell hbx i; have hz := fun i => blk_frozen hbx i; have hrx := hb.res; have hrc := fun i => blk_cell hrx i; have hrz := fun i => blk_frozen hrx i; have BK := Aside0.mk hb.res; have HLow := Aside0.mk hb.low; clear hb hbx hrx))
            refine bodyPost_ret (results_ctt rfl _ _ w.heap.size 57 #[.int .i64 0, .int .i64 0, .string ⟨#[]⟩, .string ⟨#[]⟩, .int .i64 0, .int .i64 0, .string ⟨#[]⟩] (0, 0) _ rfl (blk_fill7 BK.out _ _ _ _ _ _ _) Tryd.underlying57 rfl (by kernel_rfl)) rfl ?_
            exact RepIs.mk_ (o := zRep) HD.out (low_fill7 HLow.out _ _ _ _ _ _ _)
        · have hbx : wr.heap[w2.heap.size]? = some (.cells #[.int .i64 5, .int .i64 q, .string i, .string x, .int .i64 0, .int .i64 0, .string ⟨#[]⟩] 57 (0, 0)) := BL.out.box
          have hc := fun i => blk_cell hbx i
          have hz := fun i => blk_frozen hbx i
          have B5 : Aside0 (RefBox w (fun j => j < g ∨ j = w2.heap.size) g A c L w.heap.size w2.heap.size 57 #[.int .i64 0, .int .i64 0, .string ⟨#[]⟩, .string ⟨#[]⟩, .int .i64 0, .int .i64 0, .string ⟨#[]⟩] F4 (0 + 1 + 1 + 1 + 1 + 1) #[.int .i64 5, .int .i64 q, .string i, .string x, .int .i64 0, .int .i64 0, .string ⟨#[]⟩] wr) := ⟨BL.out⟩
          obtain ⟨q5, F5, E5⟩ : ∃ v F', askL (fun s => takeInt s 1 1099511627776) 0 F4 32 = (v, F') := ⟨_, _, rfl⟩
          obtain ⟨q6, F6, E6⟩ : ∃ v F', askL (fun s => takeInt s 1 1099511627776) 0 F5 31 = (v, F') := ⟨_, _, rfl⟩
          obtain ⟨td, ed, D⟩ : ∃ t e, doneL F6 = (t, e) := ⟨_, _, rfl⟩
          obtain ⟨hbad, hgood⟩ := H5.out q5 q6 F5 F6 td ed rfl E5 E6 D
          have HED := Aside0.mk D
          have HE5 := Aside0.mk E5
          have HE6 := Aside0.mk E6
          by_cases ce : ed = 0
          · have HD := Aside0.mk (hgood ce)
            subst ce
            clear hbad hgood
            clear hbx BL h4 D E5 E6
            go_wp2_with (first
              | (go_at_call 66; ((with_reducible refine (B5.out.int HE5.out HL.out (by omega) HZ.out).mono ?_)); rintro en w17 ⟨rfl, hb⟩; (try clear hc hz); have hbx : w17.heap[w2.heap.size]? = some (.cells #[.int .i64 5, .int .i64 q, .string i, .string x, .int .i64 0, .int .i64 0, .string ⟨#[]⟩] 57 (0, 0)) := hb.box; have hc := fun i => blk_cell hbx i; have hz := fun i => blk_frozen hbx i; have B6 := Aside0.mk (hb.set 4 (.int .i64 q5)); clear hbx hb)
              | (go_at_call 66; ((with_reducible refine (B6.out.int HE6.out HL.out (by omega) HZ.out).mono ?_)); rintro en w18 ⟨rfl, hb⟩; (try clear hc hz); have hbx : w18.heap[w2.heap.size]? = some (.cells #[.int .i64 5, .int .i64 q, .string i, .string x, .int .i64 q5, .int .i64 0, .string ⟨#[]⟩] 57 (0, 0)) := hb.box; have hc := fun i => blk_cell hbx i; have hz := fun i => blk_frozen hbx i; have B7 := Aside0.mk (hb.set 5 (.int .i64 q6)); clear hbx hb)
              | (go_at_call 67; ((with_reducible refine (B7.out.done HL.out (by omega) HED.out).mono ?_)); rintro en w30 ⟨rfl, hb⟩; (try clear hc hz); have hbx : w30.heap[w2.heap.size]? = some (.cells #[.int .i64 5, .int .i64 q, .string i, .string x, .int .i64 q5, .int .i64 q6, .string ⟨#[]⟩] 57 (0, 0)) := hb.box; have hc := fun i => blk_cell hbx i; have hz := fun i => blk_frozen hbx i; have hrx := hb.res; have hrc := fun i => blk_cell hrx i; have hrz := fun i => blk_frozen hrx i; have BK := Aside0.mk hb.res; have HLow := Aside0.mk hb.low; clear hb hbx hrx))
            refine bodyPost_ret (results_ctt rfl _ _ w.heap.size 57 #[.int .i64 5, .int .i64 q, .string i, .string x, .int .i64 q5, .int .i64 q6, .string ⟨#[]⟩] (0, 0) _ rfl (blk_fill7 BK.out _ _ _ _ _ _ _) Tryd.underlying57 rfl (by kernel_rfl)) rfl ?_
            exact RepIs.mk_ (o := ⟨5, q, i, x, q5, q6, ⟨#[]⟩⟩) HD.out (low_fill7 HLow.out _ _ _ _ _ _ _)
          · have HD := Aside0.mk (hbad ce)
            have t1 : (ed != 0) = true := by rw [bne_iff_ne]; exact ce
            clear hbad hgood ce
            clear hbx BL h4 D E5 E6
            go_wp2_with (first
              | (go_at_call 66; ((with_reducible refine (B5.out.int HE5.out HL.out (by omega) HZ.out).mono ?_)); rintro en w17 ⟨rfl, hb⟩; (try clear hc hz); have hbx : w17.heap[w2.heap.size]? = some (.cells #[.int .i64 5, .int .i64 q, .string i, .string x, .int .i64 0, .int .i64 0, .string ⟨#[]⟩] 57 (0, 0)) := hb.box; have hc := fun i => blk_cell hbx i; have hz := fun i => blk_frozen hbx i; have B6 := Aside0.mk (hb.set 4 (.int .i64 q5)); clear hbx hb)
              | (go_at_call 66; ((with_reducible refine (B6.out.int HE6.out HL.out (by omega) HZ.out).mono ?_)); rintro en w18 ⟨rfl, hb⟩; (try clear hc hz); have hbx : w18.heap[w2.heap.size]? = some (.cells #[.int .i64 5, .int .i64 q, .string i, .string x, .int .i64 q5, .int .i64 0, .string ⟨#[]⟩] 57 (0, 0)) := hb.box; have hc := fun i => blk_cell hbx i; have hz := fun i => blk_frozen hbx i; have B7 := Aside0.mk (hb.set 5 (.int .i64 q6)); clear hbx hb)
              | (go_at_call 67; ((with_reducible refine (B7.out.done HL.out (by omega) HED.out).mono ?_)); rintro en w30 ⟨rfl, hb⟩; (try clear hc hz); have hbx : w30.heap[w2.heap.size]? = some (.cells #[.int .i64 5, .int .i64 q, .string i, .string x, .int .i64 q5, .int .i64 q6, .string ⟨#[]⟩] 57 (0, 0)) := hb.box; have hc := fun i => blk_cell hbx i; have hz := fun i => blk_frozen hbx i; have hrx := hb.res; have hrc := fun i => blk_cell hrx i; have hrz := fun i => blk_frozen hrx i; have BK := Aside0.mk hb.res; have HLow := Aside0.mk hb.low; clear hb hbx hrx))
            refine bodyPost_ret (results_ctt rfl _ _ w.heap.size 57 #[.int .i64 0, .int .i64 0, .string ⟨#[]⟩, .string ⟨#[]⟩, .int .i64 0, .int .i64 0, .string ⟨#[]⟩] (0, 0) _ rfl (blk_fill7 BK.out _ _ _ _ _ _ _) Tryd.underlying57 rfl (by kernel_rfl)) rfl ?_
            exact RepIs.mk_ (o := zRep) HD.out (low_fill7 HLow.out _ _ _ _ _ _ _)
        · have hbx : wr.heap[w2.heap.size]? = some (.cells #[.int .i64 6, .int .i64 q, .string i, .string x, .int .i64 0, .int .i64 0, .string ⟨#[]⟩] 57 (0, 0)) := BL.out.box
          have hc := fun i => blk_cell hbx i
          have hz := fun i => blk_frozen hbx i
          have B5 : Aside0 (RefBox w (fun j => j < g ∨ j = w2.heap.size) g A c L w.heap.size w2.heap.size 57 #[.int .i64 0, .int .i64 0, .string ⟨#[]⟩, .string ⟨#[]⟩, .int .i64 0, .int .i64 0, .string ⟨#[]⟩] F4 (0 + 1 + 1 + 1 + 1 + 1) #[.int .i64 6, .int .i64 q, .string i, .string x, .int .i64 0, .int .i64 0, .string ⟨#[]⟩] wr) := ⟨BL.out⟩
          obtain ⟨nn, F5, E5⟩ : ∃ v F', askL takeName ⟨#[]⟩ F4 19 = (v, F') := ⟨_, _, rfl⟩
          obtain ⟨td, ed, D⟩ : ∃ t e, doneL F5 = (t, e) := ⟨_, _, rfl⟩
          obtain ⟨hbad, hgood⟩ := H6.out nn F5 td ed rfl E5 D
          have HED := Aside0.mk D
          have HE5 := Aside0.mk E5
          by_cases ce : ed = 0
          · have HD := Aside0.mk (hgood ce)
            subst ce
            clear hbad hgood
            clear hbx BL h4 D E5
            go_wp2_with (first
              | (go_at_call 65; ((with_reducible refine (B5.out.name HE5.out HL.out (by omega) HZ.out).mono ?_)); rintro en w17 ⟨rfl, hb⟩; (try clear hc hz); have hbx : w17.heap[w2.heap.size]? = some (.cells #[.int .i64 6, .int .i64 q, .string i, .string x, .int .i64 0, .int .i64 0, .string ⟨#[]⟩] 57 (0, 0)) := hb.box; have hc := fun i => blk_cell hbx i; have hz := fun i => blk_frozen hbx i; have B6 := Aside0.mk (hb.set 6 (.string nn)); clear hbx hb)
              | (go_at_call 67; ((with_reducible refine (B6.out.done HL.out (by omega) HED.out).mono ?_)); rintro en w30 ⟨rfl, hb⟩; (try clear hc hz); have hbx : w30.heap[w2.heap.size]? = some (.cells #[.int .i64 6, .int .i64 q, .string i, .string x, .int .i64 0, .int .i64 0, .string nn] 57 (0, 0)) := hb.box; have hc := fun i => blk_cell hbx i; have hz := fun i => blk_frozen hbx i; have hrx := hb.res; have hrc := fun i => blk_cell hrx i; have hrz := fun i => blk_frozen hrx i; have BK := Aside0.mk hb.res; have HLow := Aside0.mk hb.low; clear hb hbx hrx))
            refine bodyPost_ret (results_ctt rfl _ _ w.heap.size 57 #[.int .i64 6, .int .i64 q, .string i, .string x, .int .i64 0, .int .i64 0, .string nn] (0, 0) _ rfl (blk_fill7 BK.out _ _ _ _ _ _ _) Tryd.underlying57 rfl (by kernel_rfl)) rfl ?_
            exact RepIs.mk_ (o := ⟨6, q, i, x, 0, 0, nn⟩) HD.out (low_fill7 HLow.out _ _ _ _ _ _ _)
          · have HD := Aside0.mk (hbad ce)
            have t1 : (ed != 0) = true := by rw [bne_iff_ne]; exact ce
            clear hbad hgood ce
            clear hbx BL h4 D E5
            go_wp2_with (first
              | (go_at_call 65; ((with_reducible refine (B5.out.name HE5.out HL.out (by omega) HZ.out).mono ?_)); rintro en w17 ⟨rfl, hb⟩; (try clear hc hz); have hbx : w17.heap[w2.heap.size]? = some (.cells #[.int .i64 6, .int .i64 q, .string i, .string x, .int .i64 0, .int .i64 0, .string ⟨#[]⟩] 57 (0, 0)) := hb.box; have hc := fun i => blk_cell hbx i; have hz := fun i => blk_frozen hbx i; have B6 := Aside0.mk (hb.set 6 (.string nn)); clear hbx hb)
              | (go_at_call 67; ((with_reducible refine (B6.out.done HL.out (by omega) HED.out).mono ?_)); rintro en w30 ⟨rfl, hb⟩; (try clear hc hz); have hbx : w30.heap[w2.heap.size]? = some (.cells #[.int .i64 6, .int .i64 q, .string i, .string x, .int .i64 0, .int .i64 0, .string nn] 57 (0, 0)) := hb.box; have hc := fun i => blk_cell hbx i; have hz := fun i => blk_frozen hbx i; have hrx := hb.res; have hrc := fun i => blk_cell hrx i; have hrz := fun i => blk_frozen hrx i; have BK := Aside0.mk hb.res; have HLow := Aside0.mk hb.low; clear hb hbx hrx))
            refine bodyPost_ret (results_ctt rfl _ _ w.heap.size 57 #[.int .i64 0, .int .i64 0, .string ⟨#[]⟩, .string ⟨#[]⟩, .int .i64 0, .int .i64 0, .string ⟨#[]⟩] (0, 0) _ rfl (blk_fill7 BK.out _ _ _ _ _ _ _) Tryd.underlying57 rfl (by kernel_rfl)) rfl ?_
            exact RepIs.mk_ (o := zRep) HD.out (low_fill7 HLow.out _ _ _ _ _ _ _)
theorem ref14r_walk (s : ByteArray) (w : World) (hs : s.size ≤ 140737488351232) : Calls Tryd.prog 32 #[.string s] w (RepIs (replyD s) w) := by
  rcases hr : readB s with ⟨F, x⟩
  cases F with
  | none =>
    refine ref14r_none s w hs x hr ?_
    intro e
    subst e
    unfold readB at hr
    split at hr
    · rename_i g; simp only [Prod.mk.injEq, true_and] at hr; omega
    split at hr
    · simp at hr
    split at hr <;> simp at hr
  | some F =>
    obtain ⟨_, _, h0, _, _⟩ := readB_some hr
    by_cases c8 : (fieldsB s)[0].f1 = ⟨#[56]⟩
    · exact ref14r_8 s w hs F x hr h0 c8
    by_cases c9 : (fieldsB s)[0].f1 = ⟨#[57]⟩
    · obtain ⟨q, F1, E1⟩ : ∃ v F', askL (fun s => takeInt s 1 1099511627776) 0 (F.mark 35) 34 = (v, F') := ⟨_, _, rfl⟩
      obtain ⟨i, F2, E2⟩ : ∃ v F', askL takeName ⟨#[]⟩ F1 11 = (v, F') := ⟨_, _, rfl⟩
      by_cases hx : (doneL F2).2 = 0
      · exact ref14r_9 s w hs F x hr q i F1 F2 E1 E2 _ _ h0 c9 rfl hx
      · exact ref14r_9b s w hs F x hr q i F1 F2 E1 E2 _ _ h0 c9 rfl hx
    exact ref14r_zero s w hs F x hr h0 _ rfl c8 c9
end Go.Proofs.YtgfigkfcmkdjdaaDoor.B
end
