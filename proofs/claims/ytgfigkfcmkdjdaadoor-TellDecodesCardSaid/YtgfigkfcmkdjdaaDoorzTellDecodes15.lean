/- The functions that the law reaches, as plain Lean functions, and their contracts: texts merged. -/
import Derived.Test.YtgfigkfcmkdjdaaDoorzTellDecodes2
import Derived.Test.YtgfigkfcmkdjdaaDoorzTellDecodes0
import Derived.Test.YtgfigkfcmkdjdaaDoorzTellDecodes1
import Derived.Test.YtgfigkfcmkdjdaaDoorzTellDecodes3
import Derived.Test.YtgfigkfcmkdjdaaDoorzTellDecodes4
import Derived.Test.YtgfigkfcmkdjdaaDoorzTellDecodes5
import Derived.Test.YtgfigkfcmkdjdaaDoorzTellDecodes6
import Derived.Test.YtgfigkfcmkdjdaaDoorzTellDecodes7
import Derived.Test.YtgfigkfcmkdjdaaDoorzTellDecodes8
import Derived.Test.YtgfigkfcmkdjdaaDoorzTellDecodes9
import Derived.Test.YtgfigkfcmkdjdaaDoorzTellDecodes10
import Derived.Test.YtgfigkfcmkdjdaaDoorzTellDecodes11
import Derived.Test.YtgfigkfcmkdjdaaDoorzTellDecodes12
import Derived.Test.YtgfigkfcmkdjdaaDoorzTellDecodes13
import Derived.Test.YtgfigkfcmkdjdaaDoorzTellDecodes14
section
namespace Go.Proofs.YtgfigkfcmkdjdaaDoor.B
open Go.RowKit Go.Proofs.YtgfigkfcmkdjdaaDoorW.PrintWords Go.Proofs.YtgfigkfcmkdjdaaDoorW.PrintLast Go.Proofs.YtgfigkfcmkdjdaaDoorW.PrintMore
attribute [local go_sem] max2_int min2_int max_two min_two max_three min_three max_four min_four   -- for this text's walks alone
set_option linter.unusedVariables false
set_option linter.unusedSimpArgs false
structure TellV where
  f0 : Int
  f1 : ByteArray
  f2 : ByteArray
  f3 : Int
  f4 : Int
  f5 : Int
  f6 : Int
  f7 : Int
  f8 : Int
  f9 : Int
def zTell : TellV := ⟨0, ⟨#[]⟩, ⟨#[]⟩, 0, 0, 0, 0, 0, 0, 0⟩
def tellKind (s : ByteArray) : Nat := if s = ⟨#[56]⟩ then 1 else if s = ⟨#[57]⟩ then 2 else if s = ⟨#[51]⟩ then 3 else if s = ⟨#[106]⟩ then 4 else 0
def tellSchema : Nat → List AskT
  | 1 => [.name 11, .name 17, .int 39 0 9, .int 32 0 1099511627776, .int 31 0 1099511627776, .int 14 0 1099511627776, .int 151 0 1099511627776, .int 103 0 999]
  | 2 => [.name 11, .int 39 0 9, .int 103 0 999]
  | 3 => [.int 371 0 99999, .int 373 0 999]
  | 4 => [.int 371 0 99999, .int 380 0 999]
  | _ => []
def tellOf : Nat → List ValT → TellV
  | 1, [v0, v1, v2, v3, v4, v5, v6, v7] => ⟨1, v0.str, v1.str, v2.num, v3.num, v4.num, v5.num, v6.num, 0, v7.num⟩
  | 2, [v0, v1, v2] => ⟨2, v0.str, ⟨#[]⟩, v1.num, 0, 0, 0, 0, 0, v2.num⟩
  | 3, [v0, v1] => ⟨3, ⟨#[]⟩, ⟨#[]⟩, 0, 0, 0, 0, 0, v0.num, v1.num⟩
  | 4, [v0, v1] => ⟨4, ⟨#[]⟩, ⟨#[]⟩, 0, 0, 0, 0, 0, v0.num, v1.num⟩
  | _, _ => zTell
def tellD (s : ByteArray) : TellV × Int × Int :=
  match readB s with
  | (none, e) => (zTell, 0, e)
  | (some F, _) =>
    if tellKind ((F.vals 35).getD ⟨#[]⟩) = 0 then (zTell, 35, 120) else
    if (doneL (asksT (tellSchema (tellKind ((F.vals 35).getD ⟨#[]⟩))) (F.mark 35)).2).2 ≠ 0 then (zTell, doneL (asksT (tellSchema (tellKind ((F.vals 35).getD ⟨#[]⟩))) (F.mark 35)).2)
    else (tellOf (tellKind ((F.vals 35).getD ⟨#[]⟩)) (asksT (tellSchema (tellKind ((F.vals 35).getD ⟨#[]⟩))) (F.mark 35)).1, 0, 0)
theorem tellD_none {s : ByteArray} {e : Int} (h : readB s = (none, e)) : tellD s = (zTell, 0, e) := by unfold tellD; rw [h]
theorem tellD_zero {s : ByteArray} {F : FormS} {e : Int} {v : ByteArray} (h : readB s = (some F, e)) (hv : (F.vals 35).getD ⟨#[]⟩ = v) (hk : tellKind v = 0) : tellD s = (zTell, 35, 120) := by
  unfold tellD; rw [h]; simp only [hv]; rw [if_pos hk]
theorem tellD_bad {s : ByteArray} {F F' : FormS} {e t x : Int} {v : ByteArray} {k : Nat} {l : List ValT} (h : readB s = (some F, e)) (hv : (F.vals 35).getD ⟨#[]⟩ = v) (hk : tellKind v = k) (h0 : k ≠ 0) (ha : asksT (tellSchema k) (F.mark 35) = (l, F')) (hd : doneL F' = (t, x)) (hx : x ≠ 0) : tellD s = (zTell, t, x) := by
  unfold tellD; rw [h]; simp only [hv, hk, ha, hd]; rw [if_neg h0, if_pos hx]
theorem tellD_good {s : ByteArray} {F F' : FormS} {e t : Int} {v : ByteArray} {k : Nat} {l : List ValT} (h : readB s = (some F, e)) (hv : (F.vals 35).getD ⟨#[]⟩ = v) (hk : tellKind v = k) (h0 : k ≠ 0) (ha : asksT (tellSchema k) (F.mark 35) = (l, F')) (hd : doneL F' = (t, 0)) : tellD s = (tellOf k l, 0, 0) := by
  unfold tellD; rw [h]; simp only [hv, hk, ha, hd]; rw [if_neg h0, if_neg (by simp)]
theorem low_set {w W : World} (h : Below w.heap.size w W) (i : Nat) (u : Value) : Below w.heap.size w (W.setCell ⟨w.heap.size, i, none⟩ u) := h.setCell (Nat.le_refl _) u
def TellIs (r : TellV × Int × Int) (w : World) (e : Ending) (w' : World) : Prop :=
  e = .returned (.tuple #[.agg #[.int .i64 r.1.f0, .string r.1.f1, .string r.1.f2, .int .i64 r.1.f3, .int .i64 r.1.f4, .int .i64 r.1.f5, .int .i64 r.1.f6, .int .i64 r.1.f7, .int .i64 r.1.f8, .int .i64 r.1.f9], .int .i64 r.2.1, .int .i64 r.2.2]) ∧ Below w.heap.size w w'
theorem TellIs.mk_ {r : TellV × Int × Int} {a : TellV} {t x : Int} {w w' : World} (h : r = (a, t, x)) (hb : Below w.heap.size w w') :
    TellIs r w (.returned (.tuple #[.agg #[.int .i64 a.f0, .string a.f1, .string a.f2, .int .i64 a.f3, .int .i64 a.f4, .int .i64 a.f5, .int .i64 a.f6, .int .i64 a.f7, .int .i64 a.f8, .int .i64 a.f9], .int .i64 t, .int .i64 x])) w' := by
  subst h; exact ⟨rfl, hb⟩
def tellCells (a : TellV) : Array Value := #[.int .i64 a.f0, .string a.f1, .string a.f2, .int .i64 a.f3, .int .i64 a.f4, .int .i64 a.f5, .int .i64 a.f6, .int .i64 a.f7, .int .i64 a.f8, .int .i64 a.f9]
theorem readB_some {s : ByteArray} {F : FormS} {e : Int} (h : readB s = (some F, e)) : e = 0 ∧ F = formOf (fieldsB s) ∧ ∃ h0 : 0 < (fieldsB s).length, (fieldsB s)[0].f0 = 35 ∧ F.vals 35 = some (fieldsB s)[0].f1 := by
  unfold readB at h
  split at h
  · simp at h
  split at h
  · simp at h
  rename_i _ h2
  split at h
  · simp at h
  simp only [Prod.mk.injEq, Option.some.injEq] at h
  obtain ⟨rfl, rfl⟩ := h
  have h0 : 0 < (fieldsB s).length := by
    rcases Nat.eq_zero_or_pos (fieldsB s).length with g | g
    · exact absurd (.inl g) h2
    · exact g
  have h35 : (fieldsB s)[0].f0 = 35 := by
    have hr1 : rd_T78 (fieldsB s) 0 = (fieldsB s)[0] := by simp [rd_T78, h0]
    rw [hr1] at h2
    by_cases g : (fieldsB s)[0].f0 = 35
    · exact g
    · exact absurd (.inr g) h2
  refine ⟨rfl, rfl, h0, h35, ?_⟩
  show valsOf (fieldsB s) 35 = _
  unfold valsOf
  match hl : fieldsB s, h0, h35 with
  | x :: r, _, h35 => rw [List.find?_cons_of_pos (p := fun z : S78 => z.f0 == 35) (by simpa using h35)]; rfl
set_option maxRecDepth 100000 in
set_option maxHeartbeats 8000000 in
theorem ref13_none (s : ByteArray) (w : World) (hs : s.size ≤ 140737488351232) (e : Int) (hq : readB s = (none, e)) (he : e ≠ 0) :
    Calls Tryd.prog 21 #[.string s] w (TellIs (tellD s) w) := by
  have HZ := Aside0.mk (fieldsB_good s)
  have HR := Aside0.mk (ref_read_walk s (w.alloc (.cells #[.int .i64 0, .string ⟨#[]⟩, .string ⟨#[]⟩, .int .i64 0, .int .i64 0, .int .i64 0, .int .i64 0, .int .i64 0, .int .i64 0, .int .i64 0] 31)) hs)
  have HD := Aside0.mk (tellD_none hq)
  rw [hq] at HR
  have t1 : (e != 0) = true := by rw [bne_iff_ne]; exact he
  have BK0 := Aside0.mk (blk_new w (.cells #[.int .i64 0, .string ⟨#[]⟩, .string ⟨#[]⟩, .int .i64 0, .int .i64 0, .int .i64 0, .int .i64 0, .int .i64 0, .int .i64 0, .int .i64 0] 31))
  have HB0 : Aside0 (Below w.heap.size w (w.alloc (.cells #[.int .i64 0, .string ⟨#[]⟩, .string ⟨#[]⟩, .int .i64 0, .int .i64 0, .int .i64 0, .int .i64 0, .int .i64 0, .int .i64 0, .int .i64 0] 31))) := ⟨(Below.refl _ _).alloc (Nat.le_refl _) _⟩
  clear HZ hq he
  go_enter Tryd.func21, Tryd.ntmps21
  go_wp2_with (go_at_call 63; refine HR.out.mono ?_; rintro en w1 ⟨hb1, rfl⟩; have BK := Aside0.mk (blk_below BK0.out hb1); have HB := Aside0.mk (HB0.out.trans (hb1.mono HB0.out.size)); clear hb1; have hc := fun i => blk_cell BK.out i; have hf := fun i => blk_frozen BK.out i)
  refine bodyPost_ret (results_ctt rfl _ _ w.heap.size 31 #[.int .i64 0, .string ⟨#[]⟩, .string ⟨#[]⟩, .int .i64 0, .int .i64 0, .int .i64 0, .int .i64 0, .int .i64 0, .int .i64 0, .int .i64 0] (0, 0) _ rfl (blk_set (blk_set (blk_set (blk_set (blk_set (blk_set (blk_set (blk_set (blk_set (blk_set BK.out 0 (.int .i64 (zTell.f0))) 1 (.string (zTell.f1))) 2 (.string (zTell.f2))) 3 (.int .i64 (zTell.f3))) 4 (.int .i64 (zTell.f4))) 5 (.int .i64 (zTell.f5))) 6 (.int .i64 (zTell.f6))) 7 (.int .i64 (zTell.f7))) 8 (.int .i64 (zTell.f8))) 9 (.int .i64 (zTell.f9))) Tryd.underlying31 rfl (by kernel_rfl)) rfl ?_
  refine TellIs.mk_ (a := zTell) HD.out ?_
  iterate 10 (with_reducible refine low_set ?_ _ _)
  exact HB.out
set_option maxRecDepth 100000 in
set_option maxHeartbeats 8000000 in
theorem ref13_k1 (s : ByteArray) (w : World) (hs : s.size ≤ 140737488351232) (F : FormS) (x : Int) (hq : readB s = (some F, x)) (td xd : Int) (h1 : 0 < (fieldsB s).length) (h8 : (fieldsB s)[0].f1 = ⟨#[56]⟩) (hd : doneL (asksT (tellSchema 1) (F.mark 35)).2 = (td, xd)) (hxd : xd = 0) :
    Calls Tryd.prog 21 #[.string s] w (TellIs (tellD s) w) := by
  have HZ : Aside0 (∀ y ∈ fieldsB s, y.f1.size ≤ 512) := ⟨fun y hy => (fieldsB_good s y hy).2.2⟩
  have HR := Aside0.mk (ref_read_walk s (w.alloc (.cells #[.int .i64 0, .string ⟨#[]⟩, .string ⟨#[]⟩, .int .i64 0, .int .i64 0, .int .i64 0, .int .i64 0, .int .i64 0, .int .i64 0, .int .i64 0] 31)) hs)
  have hL : (fieldsB s).length ≤ 1000000 := by have := fieldsB_len s; omega
  obtain ⟨hx, hF, h0, h35, hv35⟩ := readB_some hq
  subst hx
  have HV : Aside0 ((F.vals 35).getD ⟨#[]⟩ = (fieldsB s)[0].f1) := ⟨by rw [hv35]; rfl⟩
  have he0 : F.e = 0 := by rw [hF]; rfl
  rw [hq] at HR
  have BK0 := Aside0.mk (blk_new w (.cells #[.int .i64 0, .string ⟨#[]⟩, .string ⟨#[]⟩, .int .i64 0, .int .i64 0, .int .i64 0, .int .i64 0, .int .i64 0, .int .i64 0, .int .i64 0] 31))
  have HB0 : Aside0 (Below w.heap.size w (w.alloc (.cells #[.int .i64 0, .string ⟨#[]⟩, .string ⟨#[]⟩, .int .i64 0, .int .i64 0, .int .i64 0, .int .i64 0, .int .i64 0, .int .i64 0, .int .i64 0] 31))) := ⟨(Below.refl _ _).alloc (Nat.le_refl _) _⟩
  have hws : (w.alloc (.cells #[.int .i64 0, .string ⟨#[]⟩, .string ⟨#[]⟩, .int .i64 0, .int .i64 0, .int .i64 0, .int .i64 0, .int .i64 0, .int .i64 0, .int .i64 0] 31)).heap.size = w.heap.size + 1 := World.size_alloc _ _
  rw [h8] at HV
  obtain ⟨v1, F1, E1⟩ : ∃ v F', askL takeName ⟨#[]⟩ (F.mark 35) 11 = (v, F') := ⟨_, _, rfl⟩
  obtain ⟨v2, F2, E2⟩ : ∃ v F', askL takeName ⟨#[]⟩ F1 17 = (v, F') := ⟨_, _, rfl⟩
  obtain ⟨v3, F3, E3⟩ : ∃ v F', askL (fun s => takeInt s 0 9) 0 F2 39 = (v, F') := ⟨_, _, rfl⟩
  obtain ⟨v4, F4, E4⟩ : ∃ v F', askL (fun s => takeInt s 0 1099511627776) 0 F3 32 = (v, F') := ⟨_, _, rfl⟩
  obtain ⟨v5, F5, E5⟩ : ∃ v F', askL (fun s => takeInt s 0 1099511627776) 0 F4 31 = (v, F') := ⟨_, _, rfl⟩
  obtain ⟨v6, F6, E6⟩ : ∃ v F', askL (fun s => takeInt s 0 1099511627776) 0 F5 14 = (v, F') := ⟨_, _, rfl⟩
  obtain ⟨v7, F7, E7⟩ : ∃ v F', askL (fun s => takeInt s 0 1099511627776) 0 F6 151 = (v, F') := ⟨_, _, rfl⟩
  obtain ⟨v8, F8, E8⟩ : ∃ v F', askL (fun s => takeInt s 0 999) 0 F7 103 = (v, F') := ⟨_, _, rfl⟩
  have ha : asksT (tellSchema 1) (F.mark 35) = ([.s v1, .s v2, .n v3, .n v4, .n v5, .n v6, .n v7, .n v8], F8) := by
    rw [show tellSchema 1 = [.name 11, .name 17, .int 39 0 9, .int 32 0 1099511627776, .int 31 0 1099511627776, .int 14 0 1099511627776, .int 151 0 1099511627776, .int 103 0 999] from rfl, asksT_name E1, asksT_name E2, asksT_int E3, asksT_int E4, asksT_int E5, asksT_int E6, asksT_int E7, asksT_int E8]
    rfl
  rw [ha] at hd
  have ED : doneL F8 = (td, xd) := hd
  subst hxd
  have HD := Aside0.mk (tellD_good hq HV.out (by decide) (by decide) ha ED)
  have HE1 := Aside0.mk E1
  have HE2 := Aside0.mk E2
  have HE3 := Aside0.mk E3
  have HE4 := Aside0.mk E4
  have HE5 := Aside0.mk E5
  have HE6 := Aside0.mk E6
  have HE7 := Aside0.mk E7
  have HE8 := Aside0.mk E8
  have HED := Aside0.mk ED
  clear ha hd ED hF hv35 h35 hq E1 E2 E3 E4 E5 E6 E7 E8
  generalize fieldsB s = L at *
  have HL := Aside0.mk hL
  have H8 := Aside0.mk h8
  have HE0 := Aside0.mk he0
  clear hL h8 he0
  go_enter Tryd.func21, Tryd.ntmps21
  go_wp2_with (first
    | (go_at_call 63; refine HR.out.mono ?_; rintro en w1 ⟨hb1, g, A, c, rfl, hf, hg⟩; rw [hws] at hg; have B0 := Aside0.mk (RefBox.start (w := w) (T := 31) (Z0 := #[.int .i64 0, .string ⟨#[]⟩, .string ⟨#[]⟩, .int .i64 0, .int .i64 0, .int .i64 0, .int .i64 0, .int .i64 0, .int .i64 0, .int .i64 0]) hf (blk_below BK0.out hb1) (HB0.out.trans (hb1.mono HB0.out.size)) (by omega) (Nat.le_refl _)); clear hb1 hf hg HR BK0 HB0 hws)
    | (go_at_call 64; refine (B0.out.kind HL.out (by decide) h1 HE0.out H8.out).mono ?_; rintro en w2 ⟨rfl, hb⟩; have c0 : w2.cell? ⟨w1.heap.size, 0, none⟩ = some (.int .i64 0) := blk_cell hb.box 0; have z0 := blk_frozen hb.box 0; have B1 := Aside0.mk (hb.set 0 (.int .i64 1)); clear hb B0)
    | (go_at_call 65; (with_reducible refine (B1.out.name HE1.out HL.out (by decide) HZ.out).mono ?_); rintro en w3 ⟨rfl, hb⟩; clear c0 z0; have c1 : w3.cell? ⟨w1.heap.size, 1, none⟩ = some (.string ⟨#[]⟩) := blk_cell hb.box 1; have z1 := blk_frozen hb.box 1; have B2 := Aside0.mk (hb.set 1 (.string v1)); clear hb B1)
    | (go_at_call 65; (with_reducible refine (B2.out.name HE2.out HL.out (by decide) HZ.out).mono ?_); rintro en w4 ⟨rfl, hb⟩; clear c1 z1; have c2 : w4.cell? ⟨w1.heap.size, 2, none⟩ = some (.string ⟨#[]⟩) := blk_cell hb.box 2; have z2 := blk_frozen hb.box 2; have B3 := Aside0.mk (hb.set 2 (.string v2)); clear hb B2)
    | (go_at_call 66; (with_reducible refine (B3.out.int HE3.out HL.out (by decide) HZ.out).mono ?_); rintro en w5 ⟨rfl, hb⟩; clear c2 z2; have c3 : w5.cell? ⟨w1.heap.size, 3, none⟩ = some (.int .i64 0) := blk_cell hb.box 3; have z3 := blk_frozen hb.box 3; have B4 := Aside0.mk (hb.set 3 (.int .i64 v3)); clear hb B3)
    | (go_at_call 66; (with_reducible refine (B4.out.int HE4.out HL.out (by decide) HZ.out).mono ?_); rintro en w6 ⟨rfl, hb⟩; clear c3 z3; have c4 : w6.cell? ⟨w1.heap.size, 4, none⟩ = some (.int .i64 0) := blk_cell hb.box 4; have z4 := blk_frozen hb.box 4; have B5 := Aside0.mk (hb.set 4 (.int .i64 v4)); clear hb B4)
    | (go_at_call 66; (with_reducible refine (B5.out.int HE5.out HL.out (by decide) HZ.out).mono ?_); rintro en w7 ⟨rfl, hb⟩; clear c4 z4; have c5 : w7.cell? ⟨w1.heap.size, 5, none⟩ = some (.int .i64 0) := blk_cell hb.box 5; have z5 := blk_frozen hb.box 5; have B6 := Aside0.mk (hb.set 5 (.int .i64 v5)); clear hb B5)
    | (go_at_call 66; (with_reducible refine (B6.out.int HE6.out HL.out (by decide) HZ.out).mono ?_); rintro en w8 ⟨rfl, hb⟩; clear c5 z5; have c6 : w8.cell? ⟨w1.heap.size, 6, none⟩ = some (.int .i64 0) := blk_cell hb.box 6; have z6 := blk_frozen hb.box 6; have B7 := Aside0.mk (hb.set 6 (.int .i64 v6)); clear hb B6)
    | (go_at_call 66; (with_reducible refine (B7.out.int HE7.out HL.out (by decide) HZ.out).mono ?_); rintro en w9 ⟨rfl, hb⟩; clear c6 z6; have c7 : w9.cell? ⟨w1.heap.size, 7, none⟩ = some (.int .i64 0) := blk_cell hb.box 7; have z7 := blk_frozen hb.box 7; have B8 := Aside0.mk (hb.set 7 (.int .i64 v7)); clear hb B7)
    | (go_at_call 66; (with_reducible refine (B8.out.int HE8.out HL.out (by decide) HZ.out).mono ?_); rintro en w10 ⟨rfl, hb⟩; clear c7 z7; have c8 : w10.cell? ⟨w1.heap.size, 9, none⟩ = some (.int .i64 0) := blk_cell hb.box 9; have z8 := blk_frozen hb.box 9; have B9 := Aside0.mk (hb.set 9 (.int .i64 v8)); clear hb B8)
    | (go_at_call 67; refine (B9.out.done HL.out (by decide) HED.out).mono ?_; rintro en w11 ⟨rfl, hb⟩; clear c8 z8; have hbox : w11.heap[w1.heap.size]? = some (.cells #[.int .i64 (1), .string (v1), .string (v2), .int .i64 (v3), .int .i64 (v4), .int .i64 (v5), .int .i64 (v6), .int .i64 (v7), .int .i64 (0), .int .i64 (v8)] 31 (0, 0)) := hb.box; have hcb := fun i => blk_cell hbox i; have hcr := fun i => blk_cell hb.res i; have hfr := fun i => blk_frozen hb.res i; have BK := Aside0.mk hb.res; have HLow := Aside0.mk hb.low; clear hb B9 hbox))
  refine bodyPost_ret (results_ctt rfl _ _ w.heap.size 31 #[.int .i64 (1), .string (v1), .string (v2), .int .i64 (v3), .int .i64 (v4), .int .i64 (v5), .int .i64 (v6), .int .i64 (v7), .int .i64 (0), .int .i64 (v8)] (0, 0) _ rfl (blk_set (blk_set (blk_set (blk_set (blk_set (blk_set (blk_set (blk_set (blk_set (blk_set BK.out 0 (.int .i64 (1))) 1 (.string (v1))) 2 (.string (v2))) 3 (.int .i64 (v3))) 4 (.int .i64 (v4))) 5 (.int .i64 (v5))) 6 (.int .i64 (v6))) 7 (.int .i64 (v7))) 8 (.int .i64 (0))) 9 (.int .i64 (v8))) Tryd.underlying31 rfl (by kernel_rfl)) rfl ?_
  refine TellIs.mk_ (a := ⟨1, v1, v2, v3, v4, v5, v6, v7, 0, v8⟩) HD.out ?_
  iterate 10 (with_reducible refine low_set ?_ _ _)
  exact HLow.out
set_option maxRecDepth 100000 in
set_option maxHeartbeats 8000000 in
theorem ref13_k1b (s : ByteArray) (w : World) (hs : s.size ≤ 140737488351232) (F : FormS) (x : Int) (hq : readB s = (some F, x)) (td xd : Int) (h1 : 0 < (fieldsB s).length) (h8 : (fieldsB s)[0].f1 = ⟨#[56]⟩) (hd : doneL (asksT (tellSchema 1) (F.mark 35)).2 = (td, xd)) (hxd : xd ≠ 0) :
    Calls Tryd.prog 21 #[.string s] w (TellIs (tellD s) w) := by
  have HZ : Aside0 (∀ y ∈ fieldsB s, y.f1.size ≤ 512) := ⟨fun y hy => (fieldsB_good s y hy).2.2⟩
  have HR := Aside0.mk (ref_read_walk s (w.alloc (.cells #[.int .i64 0, .string ⟨#[]⟩, .string ⟨#[]⟩, .int .i64 0, .int .i64 0, .int .i64 0, .int .i64 0, .int .i64 0, .int .i64 0, .int .i64 0] 31)) hs)
  have hL : (fieldsB s).length ≤ 1000000 := by have := fieldsB_len s; omega
  obtain ⟨hx, hF, h0, h35, hv35⟩ := readB_some hq
  subst hx
  have HV : Aside0 ((F.vals 35).getD ⟨#[]⟩ = (fieldsB s)[0].f1) := ⟨by rw [hv35]; rfl⟩
  have he0 : F.e = 0 := by rw [hF]; rfl
  rw [hq] at HR
  have BK0 := Aside0.mk (blk_new w (.cells #[.int .i64 0, .string ⟨#[]⟩, .string ⟨#[]⟩, .int .i64 0, .int .i64 0, .int .i64 0, .int .i64 0, .int .i64 0, .int .i64 0, .int .i64 0] 31))
  have HB0 : Aside0 (Below w.heap.size w (w.alloc (.cells #[.int .i64 0, .string ⟨#[]⟩, .string ⟨#[]⟩, .int .i64 0, .int .i64 0, .int .i64 0, .int .i64 0, .int .i64 0, .int .i64 0, .int .i64 0] 31))) := ⟨(Below.refl _ _).alloc (Nat.le_refl _) _⟩
  have hws : (w.alloc (.cells #[.int .i64 0, .string ⟨#[]⟩, .string ⟨#[]⟩, .int .i64 0, .int .i64 0, .int .i64 0, .int .i64 0, .int .i64 0, .int .i64 0, .int .i64 0] 31)).heap.size = w.heap.size + 1 := World.size_alloc _ _
  rw [h8] at HV
  obtain ⟨v1, F1, E1⟩ : ∃ v F', askL takeName ⟨#[]⟩ (F.mark 35) 11 = (v, F') := ⟨_, _, rfl⟩
  obtain ⟨v2, F2, E2⟩ : ∃ v F', askL takeName ⟨#[]⟩ F1 17 = (v, F') := ⟨_, _, rfl⟩
  obtain ⟨v3, F3, E3⟩ : ∃ v F', askL (fun s => takeInt s 0 9) 0 F2 39 = (v, F') := ⟨_, _, rfl⟩
  obtain ⟨v4, F4, E4⟩ : ∃ v F', askL (fun s => takeInt s 0 1099511627776) 0 F3 32 = (v, F') := ⟨_, _, rfl⟩
  obtain ⟨v5, F5, E5⟩ : ∃ v F', askL (fun s => takeInt s 0 1099511627776) 0 F4 31 = (v, F') := ⟨_, _, rfl⟩
  obtain ⟨v6, F6, E6⟩ : ∃ v F', askL (fun s => takeInt s 0 1099511627776) 0 F5 14 = (v, F') := ⟨_, _, rfl⟩
  obtain ⟨v7, F7, E7⟩ : ∃ v F', askL (fun s => takeInt s 0 1099511627776) 0 F6 151 = (v, F') := ⟨_, _, rfl⟩
  obtain ⟨v8, F8, E8⟩ : ∃ v F', askL (fun s => takeInt s 0 999) 0 F7 103 = (v, F') := ⟨_, _, rfl⟩
  have ha : asksT (tellSchema 1) (F.mark 35) = ([.s v1, .s v2, .n v3, .n v4, .n v5, .n v6, .n v7, .n v8], F8) := by
    rw [show tellSchema 1 = [.name 11, .name 17, .int 39 0 9, .int 32 0 1099511627776, .int 31 0 1099511627776, .int 14 0 1099511627776, .int 151 0 1099511627776, .int 103 0 999] from rfl, asksT_name E1, asksT_name E2, asksT_int E3, asksT_int E4, asksT_int E5, asksT_int E6, asksT_int E7, asksT_int E8]
    rfl
  rw [ha] at hd
  have ED : doneL F8 = (td, xd) := hd
  have HD := Aside0.mk (tellD_bad hq HV.out (by decide) (by decide) ha ED hxd)
  have t1 : (xd != 0) = true := by rw [bne_iff_ne]; exact hxd
  have HE1 := Aside0.mk E1
  have HE2 := Aside0.mk E2
  have HE3 := Aside0.mk E3
  have HE4 := Aside0.mk E4
  have HE5 := Aside0.mk E5
  have HE6 := Aside0.mk E6
  have HE7 := Aside0.mk E7
  have HE8 := Aside0.mk E8
  have HED := Aside0.mk ED
  clear ha hd ED hF hv35 h35 hq E1 E2 E3 E4 E5 E6 E7 E8 hxd
  generalize fieldsB s = L at *
  have HL := Aside0.mk hL
  have H8 := Aside0.mk h8
  have HE0 := Aside0.mk he0
  clear hL h8 he0
  go_enter Tryd.func21, Tryd.ntmps21
  go_wp2_with (first
    | (go_at_call 63; refine HR.out.mono ?_; rintro en w1 ⟨hb1, g, A, c, rfl, hf, hg⟩; rw [hws] at hg; have B0 := Aside0.mk (RefBox.start (w := w) (T := 31) (Z0 := #[.int .i64 0, .string ⟨#[]⟩, .string ⟨#[]⟩, .int .i64 0, .int .i64 0, .int .i64 0, .int .i64 0, .int .i64 0, .int .i64 0, .int .i64 0]) hf (blk_below BK0.out hb1) (HB0.out.trans (hb1.mono HB0.out.size)) (by omega) (Nat.le_refl _)); clear hb1 hf hg HR BK0 HB0 hws)
    | (go_at_call 64; refine (B0.out.kind HL.out (by decide) h1 HE0.out H8.out).mono ?_; rintro en w2 ⟨rfl, hb⟩; have c0 : w2.cell? ⟨w1.heap.size, 0, none⟩ = some (.int .i64 0) := blk_cell hb.box 0; have z0 := blk_frozen hb.box 0; have B1 := Aside0.mk (hb.set 0 (.int .i64 1)); clear hb B0)
    | (go_at_call 65; (with_reducible refine (B1.out.name HE1.out HL.out (by decide) HZ.out).mono ?_); rintro en w3 ⟨rfl, hb⟩; clear c0 z0; have c1 : w3.cell? ⟨w1.heap.size, 1, none⟩ = some (.string ⟨#[]⟩) := blk_cell hb.box 1; have z1 := blk_frozen hb.box 1; have B2 := Aside0.mk (hb.set 1 (.string v1)); clear hb B1)
    | (go_at_call 65; (with_reducible refine (B2.out.name HE2.out HL.out (by decide) HZ.out).mono ?_); rintro en w4 ⟨rfl, hb⟩; clear c1 z1; have c2 : w4.cell? ⟨w1.heap.size, 2, none⟩ = some (.string ⟨#[]⟩) := blk_cell hb.box 2; have z2 := blk_frozen hb.box 2; have B3 := Aside0.mk (hb.set 2 (.string v2)); clear hb B2)
    | (go_at_call 66; (with_reducible refine (B3.out.int HE3.out HL.out (by decide) HZ.out).mono ?_); rintro en w5 ⟨rfl, hb⟩; clear c2 z2; have c3 : w5.cell? ⟨w1.heap.size, 3, none⟩ = some (.int .i64 0) := blk_cell hb.box 3; have z3 := blk_frozen hb.box 3; have B4 := Aside0.mk (hb.set 3 (.int .i64 v3)); clear hb B3)
    | (go_at_call 66; (with_reducible refine (B4.out.int HE4.out HL.out (by decide) HZ.out).mono ?_); rintro en w6 ⟨rfl, hb⟩; clear c3 z3; have c4 : w6.cell? ⟨w1.heap.size, 4, none⟩ = some (.int .i64 0) := blk_cell hb.box 4; have z4 := blk_frozen hb.box 4; have B5 := Aside0.mk (hb.set 4 (.int .i64 v4)); clear hb B4)
    | (go_at_call 66; (with_reducible refine (B5.out.int HE5.out HL.out (by decide) HZ.out).mono ?_); rintro en w7 ⟨rfl, hb⟩; clear c4 z4; have c5 : w7.cell? ⟨w1.heap.size, 5, none⟩ = some (.int .i64 0) := blk_cell hb.box 5; have z5 := blk_frozen hb.box 5; have B6 := Aside0.mk (hb.set 5 (.int .i64 v5)); clear hb B5)
    | (go_at_call 66; (with_reducible refine (B6.out.int HE6.out HL.out (by decide) HZ.out).mono ?_); rintro en w8 ⟨rfl, hb⟩; clear c5 z5; have c6 : w8.cell? ⟨w1.heap.size, 6, none⟩ = some (.int .i64 0) := blk_cell hb.box 6; have z6 := blk_frozen hb.box 6; have B7 := Aside0.mk (hb.set 6 (.int .i64 v6)); clear hb B6)
    | (go_at_call 66; (with_reducible refine (B7.out.int HE7.out HL.out (by decide) HZ.out).mono ?_); rintro en w9 ⟨rfl, hb⟩; clear c6 z6; have c7 : w9.cell? ⟨w1.heap.size, 7, none⟩ = some (.int .i64 0) := blk_cell hb.box 7; have z7 := blk_frozen hb.box 7; have B8 := Aside0.mk (hb.set 7 (.int .i64 v7)); clear hb B7)
    | (go_at_call 66; (with_reducible refine (B8.out.int HE8.out HL.out (by decide) HZ.out).mono ?_); rintro en w10 ⟨rfl, hb⟩; clear c7 z7; have c8 : w10.cell? ⟨w1.heap.size, 9, none⟩ = some (.int .i64 0) := blk_cell hb.box 9; have z8 := blk_frozen hb.box 9; have B9 := Aside0.mk (hb.set 9 (.int .i64 v8)); clear hb B8)
    | (go_at_call 67; refine (B9.out.done HL.out (by decide) HED.out).mono ?_; rintro en w11 ⟨rfl, hb⟩; clear c8 z8; have hbox : w11.heap[w1.heap.size]? = some (.cells #[.int .i64 (1), .string (v1), .string (v2), .int .i64 (v3), .int .i64 (v4), .int .i64 (v5), .int .i64 (v6), .int .i64 (v7), .int .i64 (0), .int .i64 (v8)] 31 (0, 0)) := hb.box; have hcb := fun i => blk_cell hbox i; have hcr := fun i => blk_cell hb.res i; have hfr := fun i => blk_frozen hb.res i; have BK := Aside0.mk hb.res; have HLow := Aside0.mk hb.low; clear hb B9 hbox))
  refine bodyPost_ret (results_ctt rfl _ _ w.heap.size 31 #[.int .i64 0, .string ⟨#[]⟩, .string ⟨#[]⟩, .int .i64 0, .int .i64 0, .int .i64 0, .int .i64 0, .int .i64 0, .int .i64 0, .int .i64 0] (0, 0) _ rfl (blk_set (blk_set (blk_set (blk_set (blk_set (blk_set (blk_set (blk_set (blk_set (blk_set BK.out 0 (.int .i64 (zTell.f0))) 1 (.string (zTell.f1))) 2 (.string (zTell.f2))) 3 (.int .i64 (zTell.f3))) 4 (.int .i64 (zTell.f4))) 5 (.int .i64 (zTell.f5))) 6 (.int .i64 (zTell.f6))) 7 (.int .i64 (zTell.f7))) 8 (.int .i64 (zTell.f8))) 9 (.int .i64 (zTell.f9))) Tryd.underlying31 rfl (by kernel_rfl)) rfl ?_
  refine TellIs.mk_ (a := zTell) HD.out ?_
  iterate 10 (with_reducible refine low_set ?_ _ _)
  exact HLow.out
set_option maxRecDepth 100000 in
set_option maxHeartbeats 8000000 in
theorem ref13_k2 (s : ByteArray) (w : World) (hs : s.size ≤ 140737488351232) (F : FormS) (x : Int) (hq : readB s = (some F, x)) (td xd : Int) (h1 : 0 < (fieldsB s).length) (h8 : (fieldsB s)[0].f1 = ⟨#[57]⟩) (hd : doneL (asksT (tellSchema 2) (F.mark 35)).2 = (td, xd)) (hxd : xd = 0) :
    Calls Tryd.prog 21 #[.string s] w (TellIs (tellD s) w) := by
  have HZ : Aside0 (∀ y ∈ fieldsB s, y.f1.size ≤ 512) := ⟨fun y hy => (fieldsB_good s y hy).2.2⟩
  have HR := Aside0.mk (ref_read_walk s (w.alloc (.cells #[.int .i64 0, .string ⟨#[]⟩, .string ⟨#[]⟩, .int .i64 0, .int .i64 0, .int .i64 0, .int .i64 0, .int .i64 0, .int .i64 0, .int .i64 0] 31)) hs)
  have hL : (fieldsB s).length ≤ 1000000 := by have := fieldsB_len s; omega
  obtain ⟨hx, hF, h0, h35, hv35⟩ := readB_some hq
  subst hx
  have HV : Aside0 ((F.vals 35).getD ⟨#[]⟩ = (fieldsB s)[0].f1) := ⟨by rw [hv35]; rfl⟩
  have he0 : F.e = 0 := by rw [hF]; rfl
  rw [hq] at HR
  have BK0 := Aside0.mk (blk_new w (.cells #[.int .i64 0, .string ⟨#[]⟩, .string ⟨#[]⟩, .int .i64 0, .int .i64 0, .int .i64 0, .int .i64 0, .int .i64 0, .int .i64 0, .int .i64 0] 31))
  have HB0 : Aside0 (Below w.heap.size w (w.alloc (.cells #[.int .i64 0, .string ⟨#[]⟩, .string ⟨#[]⟩, .int .i64 0, .int .i64 0, .int .i64 0, .int .i64 0, .int .i64 0, .int .i64 0, .int .i64 0] 31))) := ⟨(Below.refl _ _).alloc (Nat.le_refl _) _⟩
  have hws : (w.alloc (.cells #[.int .i64 0, .string ⟨#[]⟩, .string ⟨#[]⟩, .int .i64 0, .int .i64 0, .int .i64 0, .int .i64 0, .int .i64 0, .int .i64 0, .int .i64 0] 31)).heap.size = w.heap.size + 1 := World.size_alloc _ _
  rw [h8] at HV
  obtain ⟨v1, F1, E1⟩ : ∃ v F', askL takeName ⟨#[]⟩ (F.mark 35) 11 = (v, F') := ⟨_, _, rfl⟩
  obtain ⟨v2, F2, E2⟩ : ∃ v F', askL (fun s => takeInt s 0 9) 0 F1 39 = (v, F') := ⟨_, _, rfl⟩
  obtain ⟨v3, F3, E3⟩ : ∃ v F', askL (fun s => takeInt s 0 999) 0 F2 103 = (v, F') := ⟨_, _, rfl⟩
  have ha : asksT (tellSchema 2) (F.mark 35) = ([.s v1, .n v2, .n v3], F3) := by
    rw [show tellSchema 2 = [.name 11, .int 39 0 9, .int 103 0 999] from rfl, asksT_name E1, asksT_int E2, asksT_int E3]
    rfl
  rw [ha] at hd
  have ED : doneL F3 = (td, xd) := hd
  subst hxd
  have HD := Aside0.mk (tellD_good hq HV.out (by decide) (by decide) ha ED)
  have HE1 := Aside0.mk E1
  have HE2 := Aside0.mk E2
  have HE3 := Aside0.mk E3
  have HED := Aside0.mk ED
  clear ha hd ED hF hv35 h35 hq E1 E2 E3
  generalize fieldsB s = L at *
  have HL := Aside0.mk hL
  have H8 := Aside0.mk h8
  have HE0 := Aside0.mk he0
  clear hL h8 he0
  go_enter Tryd.func21, Tryd.ntmps21
  go_wp2_with (first
    | (go_at_call 63; refine HR.out.mono ?_; rintro en w1 ⟨hb1, g, A, c, rfl, hf, hg⟩; rw [hws] at hg; have B0 := Aside0.mk (RefBox.start (w := w) (T := 31) (Z0 := #[.int .i64 0, .string ⟨#[]⟩, .string ⟨#[]⟩, .int .i64 0, .int .i64 0, .int .i64 0, .int .i64 0, .int .i64 0, .int .i64 0, .int .i64 0]) hf (blk_below BK0.out hb1) (HB0.out.trans (hb1.mono HB0.out.size)) (by omega) (Nat.le_refl _)); clear hb1 hf hg HR BK0 HB0 hws)
    | (go_at_call 64; refine (B0.out.kind HL.out (by decide) h1 HE0.out H8.out).mono ?_; rintro en w2 ⟨rfl, hb⟩; have c0 : w2.cell? ⟨w1.heap.size, 0, none⟩ = some (.int .i64 0) := blk_cell hb.box 0; have z0 := blk_frozen hb.box 0; have B1 := Aside0.mk (hb.set 0 (.int .i64 2)); clear hb B0)
    | (go_at_call 65; (with_reducible refine (B1.out.name HE1.out HL.out (by decide) HZ.out).mono ?_); rintro en w3 ⟨rfl, hb⟩; clear c0 z0; have c1 : w3.cell? ⟨w1.heap.size, 1, none⟩ = some (.string ⟨#[]⟩) := blk_cell hb.box 1; have z1 := blk_frozen hb.box 1; have B2 := Aside0.mk (hb.set 1 (.string v1)); clear hb B1)
    | (go_at_call 66; (with_reducible refine (B2.out.int HE2.out HL.out (by decide) HZ.out).mono ?_); rintro en w4 ⟨rfl, hb⟩; clear c1 z1; have c2 : w4.cell? ⟨w1.heap.size, 3, none⟩ = some (.int .i64 0) := blk_cell hb.box 3; have z2 := blk_frozen hb.box 3; have B3 := Aside0.mk (hb.set 3 (.int .i64 v2)); clear hb B2)
    | (go_at_call 66; (with_reducible refine (B3.out.int HE3.out HL.out (by decide) HZ.out).mono ?_); rintro en w5 ⟨rfl, hb⟩; clear c2 z2; have c3 : w5.cell? ⟨w1.heap.size, 9, none⟩ = some (.int .i64 0) := blk_cell hb.box 9; have z3 := blk_frozen hb.box 9; have B4 := Aside0.mk (hb.set 9 (.int .i64 v3)); clear hb B3)
    | (go_at_call 67; refine (B4.out.done HL.out (by decide) HED.out).mono ?_; rintro en w6 ⟨rfl, hb⟩; clear c3 z3; have hbox : w6.heap[w1.heap.size]? = some (.cells #[.int .i64 (2), .string (v1), .string (⟨#[]⟩), .int .i64 (v2), .int .i64 (0), .int .i64 (0), .int .i64 (0), .int .i64 (0), .int .i64 (0), .int .i64 (v3)] 31 (0, 0)) := hb.box; have hcb := fun i => blk_cell hbox i; have hcr := fun i => blk_cell hb.res i; have hfr := fun i => blk_frozen hb.res i; have BK := Aside0.mk hb.res; have HLow := Aside0.mk hb.low; clear hb B4 hbox))
  refine bodyPost_ret (results_ctt rfl _ _ w.heap.size 31 #[.int .i64 (2), .string (v1), .string (⟨#[]⟩), .int .i64 (v2), .int .i64 (0), .int .i64 (0), .int .i64 (0), .int .i64 (0), .int .i64 (0), .int .i64 (v3)] (0, 0) _ rfl (blk_set (blk_set (blk_set (blk_set (blk_set (blk_set (blk_set (blk_set (blk_set (blk_set BK.out 0 (.int .i64 (2))) 1 (.string (v1))) 2 (.string (⟨#[]⟩))) 3 (.int .i64 (v2))) 4 (.int .i64 (0))) 5 (.int .i64 (0))) 6 (.int .i64 (0))) 7 (.int .i64 (0))) 8 (.int .i64 (0))) 9 (.int .i64 (v3))) Tryd.underlying31 rfl (by kernel_rfl)) rfl ?_
  refine TellIs.mk_ (a := ⟨2, v1, ⟨#[]⟩, v2, 0, 0, 0, 0, 0, v3⟩) HD.out ?_
  iterate 10 (with_reducible refine low_set ?_ _ _)
  exact HLow.out
set_option maxRecDepth 100000 in
set_option maxHeartbeats 8000000 in
theorem ref13_k2b (s : ByteArray) (w : World) (hs : s.size ≤ 140737488351232) (F : FormS) (x : Int) (hq : readB s = (some F, x)) (td xd : Int) (h1 : 0 < (fieldsB s).length) (h8 : (fieldsB s)[0].f1 = ⟨#[57]⟩) (hd : doneL (asksT (tellSchema 2) (F.mark 35)).2 = (td, xd)) (hxd : xd ≠ 0) :
    Calls Tryd.prog 21 #[.string s] w (TellIs (tellD s) w) := by
  have HZ : Aside0 (∀ y ∈ fieldsB s, y.f1.size ≤ 512) := ⟨fun y hy => (fieldsB_good s y hy).2.2⟩
  have HR := Aside0.mk (ref_read_walk s (w.alloc (.cells #[.int .i64 0, .string ⟨#[]⟩, .string ⟨#[]⟩, .int .i64 0, .int .i64 0, .int .i64 0, .int .i64 0, .int .i64 0, .int .i64 0, .int .i64 0] 31)) hs)
  have hL : (fieldsB s).length ≤ 1000000 := by have := fieldsB_len s; omega
  obtain ⟨hx, hF, h0, h35, hv35⟩ := readB_some hq
  subst hx
  have HV : Aside0 ((F.vals 35).getD ⟨#[]⟩ = (fieldsB s)[0].f1) := ⟨by rw [hv35]; rfl⟩
  have he0 : F.e = 0 := by rw [hF]; rfl
  rw [hq] at HR
  have BK0 := Aside0.mk (blk_new w (.cells #[.int .i64 0, .string ⟨#[]⟩, .string ⟨#[]⟩, .int .i64 0, .int .i64 0, .int .i64 0, .int .i64 0, .int .i64 0, .int .i64 0, .int .i64 0] 31))
  have HB0 : Aside0 (Below w.heap.size w (w.alloc (.cells #[.int .i64 0, .string ⟨#[]⟩, .string ⟨#[]⟩, .int .i64 0, .int .i64 0, .int .i64 0, .int .i64 0, .int .i64 0, .int .i64 0, .int .i64 0] 31))) := ⟨(Below.refl _ _).alloc (Nat.le_refl _) _⟩
  have hws : (w.alloc (.cells #[.int .i64 0, .string ⟨#[]⟩, .string ⟨#[]⟩, .int .i64 0, .int .i64 0, .int .i64 0, .int .i64 0, .int .i64 0, .int .i64 0, .int .i64 0] 31)).heap.size = w.heap.size + 1 := World.size_alloc _ _
  rw [h8] at HV
  obtain ⟨v1, F1, E1⟩ : ∃ v F', askL takeName ⟨#[]⟩ (F.mark 35) 11 = (v, F') := ⟨_, _, rfl⟩
  obtain ⟨v2, F2, E2⟩ : ∃ v F', askL (fun s => takeInt s 0 9) 0 F1 39 = (v, F') := ⟨_, _, rfl⟩
  obtain ⟨v3, F3, E3⟩ : ∃ v F', askL (fun s => takeInt s 0 999) 0 F2 103 = (v, F') := ⟨_, _, rfl⟩
  have ha : asksT (tellSchema 2) (F.mark 35) = ([.s v1, .n v2, .n v3], F3) := by
    rw [show tellSchema 2 = [.name 11, .int 39 0 9, .int 103 0 999] from rfl, asksT_name E1, asksT_int E2, asksT_int E3]
    rfl
  rw [ha] at hd
  have ED : doneL F3 = (td, xd) := hd
  have HD := Aside0.mk (tellD_bad hq HV.out (by decide) (by decide) ha ED hxd)
  have t1 : (xd != 0) = true := by rw [bne_iff_ne]; exact hxd
  have HE1 := Aside0.mk E1
  have HE2 := Aside0.mk E2
  have HE3 := Aside0.mk E3
  have HED := Aside0.mk ED
  clear ha hd ED hF hv35 h35 hq E1 E2 E3 hxd
  generalize fieldsB s = L at *
  have HL := Aside0.mk hL
  have H8 := Aside0.mk h8
  have HE0 := Aside0.mk he0
  clear hL h8 he0
  go_enter Tryd.func21, Tryd.ntmps21
  go_wp2_with (first
    | (go_at_call 63; refine HR.out.mono ?_; rintro en w1 ⟨hb1, g, A, c, rfl, hf, hg⟩; rw [hws] at hg; have B0 := Aside0.mk (RefBox.start (w := w) (T := 31) (Z0 := #[.int .i64 0, .string ⟨#[]⟩, .string ⟨#[]⟩, .int .i64 0, .int .i64 0, .int .i64 0, .int .i64 0, .int .i64 0, .int .i64 0, .int .i64 0]) hf (blk_below BK0.out hb1) (HB0.out.trans (hb1.mono HB0.out.size)) (by omega) (Nat.le_refl _)); clear hb1 hf hg HR BK0 HB0 hws)
    | (go_at_call 64; refine (B0.out.kind HL.out (by decide) h1 HE0.out H8.out).mono ?_; rintro en w2 ⟨rfl, hb⟩; have c0 : w2.cell? ⟨w1.heap.size, 0, none⟩ = some (.int .i64 0) := blk_cell hb.box 0; have z0 := blk_frozen hb.box 0; have B1 := Aside0.mk (hb.set 0 (.int .i64 2)); clear hb B0)
    | (go_at_call 65; (with_reducible refine (B1.out.name HE1.out HL.out (by decide) HZ.out).mono ?_); rintro en w3 ⟨rfl, hb⟩; clear c0 z0; have c1 : w3.cell? ⟨w1.heap.size, 1, none⟩ = some (.string ⟨#[]⟩) := blk_cell hb.box 1; have z1 := blk_frozen hb.box 1; have B2 := Aside0.mk (hb.set 1 (.string v1)); clear hb B1)
    | (go_at_call 66; (with_reducible refine (B2.out.int HE2.out HL.out (by decide) HZ.out).mono ?_); rintro en w4 ⟨rfl, hb⟩; clear c1 z1; have c2 : w4.cell? ⟨w1.heap.size, 3, none⟩ = some (.int .i64 0) := blk_cell hb.box 3; have z2 := blk_frozen hb.box 3; have B3 := Aside0.mk (hb.set 3 (.int .i64 v2)); clear hb B2)
    | (go_at_call 66; (with_reducible refine (B3.out.int HE3.out HL.out (by decide) HZ.out).mono ?_); rintro en w5 ⟨rfl, hb⟩; clear c2 z2; have c3 : w5.cell? ⟨w1.heap.size, 9, none⟩ = some (.int .i64 0) := blk_cell hb.box 9; have z3 := blk_frozen hb.box 9; have B4 := Aside0.mk (hb.set 9 (.int .i64 v3)); clear hb B3)
    | (go_at_call 67; refine (B4.out.done HL.out (by decide) HED.out).mono ?_; rintro en w6 ⟨rfl, hb⟩; clear c3 z3; have hbox : w6.heap[w1.heap.size]? = some (.cells #[.int .i64 (2), .string (v1), .string (⟨#[]⟩), .int .i64 (v2), .int .i64 (0), .int .i64 (0), .int .i64 (0), .int .i64 (0), .int .i64 (0), .int .i64 (v3)] 31 (0, 0)) := hb.box; have hcb := fun i => blk_cell hbox i; have hcr := fun i => blk_cell hb.res i; have hfr := fun i => blk_frozen hb.res i; have BK := Aside0.mk hb.res; have HLow := Aside0.mk hb.low; clear hb B4 hbox))
  refine bodyPost_ret (results_ctt rfl _ _ w.heap.size 31 #[.int .i64 0, .string ⟨#[]⟩, .string ⟨#[]⟩, .int .i64 0, .int .i64 0, .int .i64 0, .int .i64 0, .int .i64 0, .int .i64 0, .int .i64 0] (0, 0) _ rfl (blk_set (blk_set (blk_set (blk_set (blk_set (blk_set (blk_set (blk_set (blk_set (blk_set BK.out 0 (.int .i64 (zTell.f0))) 1 (.string (zTell.f1))) 2 (.string (zTell.f2))) 3 (.int .i64 (zTell.f3))) 4 (.int .i64 (zTell.f4))) 5 (.int .i64 (zTell.f5))) 6 (.int .i64 (zTell.f6))) 7 (.int .i64 (zTell.f7))) 8 (.int .i64 (zTell.f8))) 9 (.int .i64 (zTell.f9))) Tryd.underlying31 rfl (by kernel_rfl)) rfl ?_
  refine TellIs.mk_ (a := zTell) HD.out ?_
  iterate 10 (with_reducible refine low_set ?_ _ _)
  exact HLow.out
set_option maxRecDepth 100000 in
set_option maxHeartbeats 8000000 in
theorem ref13_k3 (s : ByteArray) (w : World) (hs : s.size ≤ 140737488351232) (F : FormS) (x : Int) (hq : readB s = (some F, x)) (td xd : Int) (h1 : 0 < (fieldsB s).length) (h8 : (fieldsB s)[0].f1 = ⟨#[51]⟩) (hd : doneL (asksT (tellSchema 3) (F.mark 35)).2 = (td, xd)) (hxd : xd = 0) :
    Calls Tryd.prog 21 #[.string s] w (TellIs (tellD s) w) := by
  have HZ : Aside0 (∀ y ∈ fieldsB s, y.f1.size ≤ 512) := ⟨fun y hy => (fieldsB_good s y hy).2.2⟩
  have HR := Aside0.mk (ref_read_walk s (w.alloc (.cells #[.int .i64 0, .string ⟨#[]⟩, .string ⟨#[]⟩, .int .i64 0, .int .i64 0, .int .i64 0, .int .i64 0, .int .i64 0, .int .i64 0, .int .i64 0] 31)) hs)
  have hL : (fieldsB s).length ≤ 1000000 := by have := fieldsB_len s; omega
  obtain ⟨hx, hF, h0, h35, hv35⟩ := readB_some hq
  subst hx
  have HV : Aside0 ((F.vals 35).getD ⟨#[]⟩ = (fieldsB s)[0].f1) := ⟨by rw [hv35]; rfl⟩
  have he0 : F.e = 0 := by rw [hF]; rfl
  rw [hq] at HR
  have BK0 := Aside0.mk (blk_new w (.cells #[.int .i64 0, .string ⟨#[]⟩, .string ⟨#[]⟩, .int .i64 0, .int .i64 0, .int .i64 0, .int .i64 0, .int .i64 0, .int .i64 0, .int .i64 0] 31))
  have HB0 : Aside0 (Below w.heap.size w (w.alloc (.cells #[.int .i64 0, .string ⟨#[]⟩, .string ⟨#[]⟩, .int .i64 0, .int .i64 0, .int .i64 0, .int .i64 0, .int .i64 0, .int .i64 0, .int .i64 0] 31))) := ⟨(Below.refl _ _).alloc (Nat.le_refl _) _⟩
  have hws : (w.alloc (.cells #[.int .i64 0, .string ⟨#[]⟩, .string ⟨#[]⟩, .int .i64 0, .int .i64 0, .int .i64 0, .int .i64 0, .int .i64 0, .int .i64 0, .int .i64 0] 31)).heap.size = w.heap.size + 1 := World.size_alloc _ _
  rw [h8] at HV
  obtain ⟨v1, F1, E1⟩ : ∃ v F', askL (fun s => takeInt s 0 99999) 0 (F.mark 35) 371 = (v, F') := ⟨_, _, rfl⟩
  obtain ⟨v2, F2, E2⟩ : ∃ v F', askL (fun s => takeInt s 0 999) 0 F1 373 = (v, F') := ⟨_, _, rfl⟩
  have ha : asksT (tellSchema 3) (F.mark 35) = ([.n v1, .n v2], F2) := by
    rw [show tellSchema 3 = [.int 371 0 99999, .int 373 0 999] from rfl, asksT_int E1, asksT_int E2]
    rfl
  rw [ha] at hd
  have ED : doneL F2 = (td, xd) := hd
  subst hxd
  have HD := Aside0.mk (tellD_good hq HV.out (by decide) (by decide) ha ED)
  have HE1 := Aside0.mk E1
  have HE2 := Aside0.mk E2
  have HED := Aside0.mk ED
  clear ha hd ED hF hv35 h35 hq E1 E2
  generalize fieldsB s = L at *
  have HL := Aside0.mk hL
  have H8 := Aside0.mk h8
  have HE0 := Aside0.mk he0
  clear hL h8 he0
  go_enter Tryd.func21, Tryd.ntmps21
  go_wp2_with (first
    | (go_at_call 63; refine HR.out.mono ?_; rintro en w1 ⟨hb1, g, A, c, rfl, hf, hg⟩; rw [hws] at hg; have B0 := Aside0.mk (RefBox.start (w := w) (T := 31) (Z0 := #[.int .i64 0, .string ⟨#[]⟩, .string ⟨#[]⟩, .int .i64 0, .int .i64 0, .int .i64 0, .int .i64 0, .int .i64 0, .int .i64 0, .int .i64 0]) hf (blk_below BK0.out hb1) (HB0.out.trans (hb1.mono HB0.out.size)) (by omega) (Nat.le_refl _)); clear hb1 hf hg HR BK0 HB0 hws)
    | (go_at_call 64; refine (B0.out.kind HL.out (by decide) h1 HE0.out H8.out).mono ?_; rintro en w2 ⟨rfl, hb⟩; have c0 : w2.cell? ⟨w1.heap.size, 0, none⟩ = some (.int .i64 0) := blk_cell hb.box 0; have z0 := blk_frozen hb.box 0; have B1 := Aside0.mk (hb.set 0 (.int .i64 3)); clear hb B0)
    | (go_at_call 66; (with_reducible refine (B1.out.int HE1.out HL.out (by decide) HZ.out).mono ?_); rintro en w3 ⟨rfl, hb⟩; clear c0 z0; have c1 : w3.cell? ⟨w1.heap.size, 8, none⟩ = some (.int .i64 0) := blk_cell hb.box 8; have z1 := blk_frozen hb.box 8; have B2 := Aside0.mk (hb.set 8 (.int .i64 v1)); clear hb B1)
    | (go_at_call 66; (with_reducible refine (B2.out.int HE2.out HL.out (by decide) HZ.out).mono ?_); rintro en w4 ⟨rfl, hb⟩; clear c1 z1; have c2 : w4.cell? ⟨w1.heap.size, 9, none⟩ = some (.int .i64 0) := blk_cell hb.box 9; have z2 := blk_frozen hb.box 9; have B3 := Aside0.mk (hb.set 9 (.int .i64 v2)); clear hb B2)
    | (go_at_call 67; refine (B3.out.done HL.out (by decide) HED.out).mono ?_; rintro en w5 ⟨rfl, hb⟩; clear c2 z2; have hbox : w5.heap[w1.heap.size]? = some (.cells #[.int .i64 (3), .string (⟨#[]⟩), .string (⟨#[]⟩), .int .i64 (0), .int .i64 (0), .int .i64 (0), .int .i64 (0), .int .i64 (0), .int .i64 (v1), .int .i64 (v2)] 31 (0, 0)) := hb.box; have hcb := fun i => blk_cell hbox i; have hcr := fun i => blk_cell hb.res i; have hfr := fun i => blk_frozen hb.res i; have BK := Aside0.mk hb.res; have HLow := Aside0.mk hb.low; clear hb B3 hbox))
  refine bodyPost_ret (results_ctt rfl _ _ w.heap.size 31 #[.int .i64 (3), .string (⟨#[]⟩), .string (⟨#[]⟩), .int .i64 (0), .int .i64 (0), .int .i64 (0), .int .i64 (0), .int .i64 (0), .int .i64 (v1), .int .i64 (v2)] (0, 0) _ rfl (blk_set (blk_set (blk_set (blk_set (blk_set (blk_set (blk_set (blk_set (blk_set (blk_set BK.out 0 (.int .i64 (3))) 1 (.string (⟨#[]⟩))) 2 (.string (⟨#[]⟩))) 3 (.int .i64 (0))) 4 (.int .i64 (0))) 5 (.int .i64 (0))) 6 (.int .i64 (0))) 7 (.int .i64 (0))) 8 (.int .i64 (v1))) 9 (.int .i64 (v2))) Tryd.underlying31 rfl (by kernel_rfl)) rfl ?_
  refine TellIs.mk_ (a := ⟨3, ⟨#[]⟩, ⟨#[]⟩, 0, 0, 0, 0, 0, v1, v2⟩) HD.out ?_
  iterate 10 (with_reducible refine low_set ?_ _ _)
  exact HLow.out
set_option maxRecDepth 100000 in
set_option maxHeartbeats 8000000 in
theorem ref13_k3b (s : ByteArray) (w : World) (hs : s.size ≤ 140737488351232) (F : FormS) (x : Int) (hq : readB s = (some F, x)) (td xd : Int) (h1 : 0 < (fieldsB s).length) (h8 : (fieldsB s)[0].f1 = ⟨#[51]⟩) (hd : doneL (asksT (tellSchema 3) (F.mark 35)).2 = (td, xd)) (hxd : xd ≠ 0) :
    Calls Tryd.prog 21 #[.string s] w (TellIs (tellD s) w) := by
  have HZ : Aside0 (∀ y ∈ fieldsB s, y.f1.size ≤ 512) := ⟨fun y hy => (fieldsB_good s y hy).2.2⟩
  have HR := Aside0.mk (ref_read_walk s (w.alloc (.cells #[.int .i64 0, .string ⟨#[]⟩, .string ⟨#[]⟩, .int .i64 0, .int .i64 0, .int .i64 0, .int .i64 0, .int .i64 0, .int .i64 0, .int .i64 0] 31)) hs)
  have hL : (fieldsB s).length ≤ 1000000 := by have := fieldsB_len s; omega
  obtain ⟨hx, hF, h0, h35, hv35⟩ := readB_some hq
  subst hx
  have HV : Aside0 ((F.vals 35).getD ⟨#[]⟩ = (fieldsB s)[0].f1) := ⟨by rw [hv35]; rfl⟩
  have he0 : F.e = 0 := by rw [hF]; rfl
  rw [hq] at HR
  have BK0 := Aside0.mk (blk_new w (.cells #[.int .i64 0, .string ⟨#[]⟩, .string ⟨#[]⟩, .int .i64 0, .int .i64 0, .int .i64 0, .int .i64 0, .int .i64 0, .int .i64 0, .int .i64 0] 31))
  have HB0 : Aside0 (Below w.heap.size w (w.alloc (.cells #[.int .i64 0, .string ⟨#[]⟩, .string ⟨#[]⟩, .int .i64 0, .int .i64 0, .int .i64 0, .int .i64 0, .int .i64 0, .int .i64 0, .int .i64 0] 31))) := ⟨(Below.refl _ _).alloc (Nat.le_refl _) _⟩
  have hws : (w.alloc (.cells #[.int .i64 0, .string ⟨#[]⟩, .string ⟨#[]⟩, .int .i64 0, .int .i64 0, .int .i64 0, .int .i64 0, .int .i64 0, .int .i64 0, .int .i64 0] 31)).heap.size = w.heap.size + 1 := World.size_alloc _ _
  rw [h8] at HV
  obtain ⟨v1, F1, E1⟩ : ∃ v F', askL (fun s => takeInt s 0 99999) 0 (F.mark 35) 371 = (v, F') := ⟨_, _, rfl⟩
  obtain ⟨v2, F2, E2⟩ : ∃ v F', askL (fun s => takeInt s 0 999) 0 F1 373 = (v, F') := ⟨_, _, rfl⟩
  have ha : asksT (tellSchema 3) (F.mark 35) = ([.n v1, .n v2], F2) := by
    rw [show tellSchema 3 = [.int 371 0 99999, .int 373 0 999] from rfl, asksT_int E1, asksT_int E2]
    rfl
  rw [ha] at hd
  have ED : doneL F2 = (td, xd) := hd
  have HD := Aside0.mk (tellD_bad hq HV.out (by decide) (by decide) ha ED hxd)
  have t1 : (xd != 0) = true := by rw [bne_iff_ne]; exact hxd
  have HE1 := Aside0.mk E1
  have HE2 := Aside0.mk E2
  have HED := Aside0.mk ED
  clear ha hd ED hF hv35 h35 hq E1 E2 hxd
  generalize fieldsB s = L at *
  have HL := Aside0.mk hL
  have H8 := Aside0.mk h8
  have HE0 := Aside0.mk he0
  clear hL h8 he0
  go_enter Tryd.func21, Tryd.ntmps21
  go_wp2_with (first
    | (go_at_call 63; refine HR.out.mono ?_; rintro en w1 ⟨hb1, g, A, c, rfl, hf, hg⟩; rw [hws] at hg; have B0 := Aside0.mk (RefBox.start (w := w) (T := 31) (Z0 := #[.int .i64 0, .string ⟨#[]⟩, .string ⟨#[]⟩, .int .i64 0, .int .i64 0, .int .i64 0, .int .i64 0, .int .i64 0, .int .i64 0, .int .i64 0]) hf (blk_below BK0.out hb1) (HB0.out.trans (hb1.mono HB0.out.size)) (by omega) (Nat.le_refl _)); clear hb1 hf hg HR BK0 HB0 hws)
    | (go_at_call 64; refine (B0.out.kind HL.out (by decide) h1 HE0.out H8.out).mono ?_; rintro en w2 ⟨rfl, hb⟩; have c0 : w2.cell? ⟨w1.heap.size, 0, none⟩ = some (.int .i64 0) := blk_cell hb.box 0; have z0 := blk_frozen hb.box 0; have B1 := Aside0.mk (hb.set 0 (.int .i64 3)); clear hb B0)
    | (go_at_call 66; (with_reducible refine (B1.out.int HE1.out HL.out (by decide) HZ.out).mono ?_); rintro en w3 ⟨rfl, hb⟩; clear c0 z0; have c1 : w3.cell? ⟨w1.heap.size, 8, none⟩ = some (.int .i64 0) := blk_cell hb.box 8; have z1 := blk_frozen hb.box 8; have B2 := Aside0.mk (hb.set 8 (.int .i64 v1)); clear hb B1)
    | (go_at_call 66; (with_reducible refine (B2.out.int HE2.out HL.out (by decide) HZ.out).mono ?_); rintro en w4 ⟨rfl, hb⟩; clear c1 z1; have c2 : w4.cell? ⟨w1.heap.size, 9, none⟩ = some (.int .i64 0) := blk_cell hb.box 9; have z2 := blk_frozen hb.box 9; have B3 := Aside0.mk (hb.set 9 (.int .i64 v2)); clear hb B2)
    | (go_at_call 67; refine (B3.out.done HL.out (by decide) HED.out).mono ?_; rintro en w5 ⟨rfl, hb⟩; clear c2 z2; have hbox : w5.heap[w1.heap.size]? = some (.cells #[.int .i64 (3), .string (⟨#[]⟩), .string (⟨#[]⟩), .int .i64 (0), .int .i64 (0), .int .i64 (0), .int .i64 (0), .int .i64 (0), .int .i64 (v1), .int .i64 (v2)] 31 (0, 0)) := hb.box; have hcb := fun i => blk_cell hbox i; have hcr := fun i => blk_cell hb.res i; have hfr := fun i => blk_frozen hb.res i; have BK := Aside0.mk hb.res; have HLow := Aside0.mk hb.low; clear hb B3 hbox))
  refine bodyPost_ret (results_ctt rfl _ _ w.heap.size 31 #[.int .i64 0, .string ⟨#[]⟩, .string ⟨#[]⟩, .int .i64 0, .int .i64 0, .int .i64 0, .int .i64 0, .int .i64 0, .int .i64 0, .int .i64 0] (0, 0) _ rfl (blk_set (blk_set (blk_set (blk_set (blk_set (blk_set (blk_set (blk_set (blk_set (blk_set BK.out 0 (.int .i64 (zTell.f0))) 1 (.string (zTell.f1))) 2 (.string (zTell.f2))) 3 (.int .i64 (zTell.f3))) 4 (.int .i64 (zTell.f4))) 5 (.int .i64 (zTell.f5))) 6 (.int .i64 (zTell.f6))) 7 (.int .i64 (zTell.f7))) 8 (.int .i64 (zTell.f8))) 9 (.int .i64 (zTell.f9))) Tryd.underlying31 rfl (by kernel_rfl)) rfl ?_
  refine TellIs.mk_ (a := zTell) HD.out ?_
  iterate 10 (with_reducible refine low_set ?_ _ _)
  exact HLow.out
set_option maxRecDepth 100000 in
set_option maxHeartbeats 8000000 in
theorem ref13_k4 (s : ByteArray) (w : World) (hs : s.size ≤ 140737488351232) (F : FormS) (x : Int) (hq : readB s = (some F, x)) (td xd : Int) (h1 : 0 < (fieldsB s).length) (h8 : (fieldsB s)[0].f1 = ⟨#[106]⟩) (hd : doneL (asksT (tellSchema 4) (F.mark 35)).2 = (td, xd)) (hxd : xd = 0) :
    Calls Tryd.prog 21 #[.string s] w (TellIs (tellD s) w) := by
  have HZ : Aside0 (∀ y ∈ fieldsB s, y.f1.size ≤ 512) := ⟨fun y hy => (fieldsB_good s y hy).2.2⟩
  have HR := Aside0.mk (ref_read_walk s (w.alloc (.cells #[.int .i64 0, .string ⟨#[]⟩, .string ⟨#[]⟩, .int .i64 0, .int .i64 0, .int .i64 0, .int .i64 0, .int .i64 0, .int .i64 0, .int .i64 0] 31)) hs)
  have hL : (fieldsB s).length ≤ 1000000 := by have := fieldsB_len s; omega
  obtain ⟨hx, hF, h0, h35, hv35⟩ := readB_some hq
  subst hx
  have HV : Aside0 ((F.vals 35).getD ⟨#[]⟩ = (fieldsB s)[0].f1) := ⟨by rw [hv35]; rfl⟩
  have he0 : F.e = 0 := by rw [hF]; rfl
  rw [hq] at HR
  have BK0 := Aside0.mk (blk_new w (.cells #[.int .i64 0, .string ⟨#[]⟩, .string ⟨#[]⟩, .int .i64 0, .int .i64 0, .int .i64 0, .int .i64 0, .int .i64 0, .int .i64 0, .int .i64 0] 31))
  have HB0 : Aside0 (Below w.heap.size w (w.alloc (.cells #[.int .i64 0, .string ⟨#[]⟩, .string ⟨#[]⟩, .int .i64 0, .int .i64 0, .int .i64 0, .int .i64 0, .int .i64 0, .int .i64 0, .int .i64 0] 31))) := ⟨(Below.refl _ _).alloc (Nat.le_refl _) _⟩
  have hws : (w.alloc (.cells #[.int .i64 0, .string ⟨#[]⟩, .string ⟨#[]⟩, .int .i64 0, .int .i64 0, .int .i64 0, .int .i64 0, .int .i64 0, .int .i64 0, .int .i64 0] 31)).heap.size = w.heap.size + 1 := World.size_alloc _ _
  rw [h8] at HV
  obtain ⟨v1, F1, E1⟩ : ∃ v F', askL (fun s => takeInt s 0 99999) 0 (F.mark 35) 371 = (v, F') := ⟨_, _, rfl⟩
  obtain ⟨v2, F2, E2⟩ : ∃ v F', askL (fun s => takeInt s 0 999) 0 F1 380 = (v, F') := ⟨_, _, rfl⟩
  have ha : asksT (tellSchema 4) (F.mark 35) = ([.n v1, .n v2], F2) := by
    rw [show tellSchema 4 = [.int 371 0 99999, .int 380 0 999] from rfl, asksT_int E1, asksT_int E2]
    rfl
  rw [ha] at hd
  have ED : doneL F2 = (td, xd) := hd
  subst hxd
  have HD := Aside0.mk (tellD_good hq HV.out (by decide) (by decide) ha ED)
  have HE1 := Aside0.mk E1
  have HE2 := Aside0.mk E2
  have HED := Aside0.mk ED
  clear ha hd ED hF hv35 h35 hq E1 E2
  generalize fieldsB s = L at *
  have HL := Aside0.mk hL
  have H8 := Aside0.mk h8
  have HE0 := Aside0.mk he0
  clear hL h8 he0
  go_enter Tryd.func21, Tryd.ntmps21
  go_wp2_with (first
    | (go_at_call 63; refine HR.out.mono ?_; rintro en w1 ⟨hb1, g, A, c, rfl, hf, hg⟩; rw [hws] at hg; have B0 := Aside0.mk (RefBox.start (w := w) (T := 31) (Z0 := #[.int .i64 0, .string ⟨#[]⟩, .string ⟨#[]⟩, .int .i64 0, .int .i64 0, .int .i64 0, .int .i64 0, .int .i64 0, .int .i64 0, .int .i64 0]) hf (blk_below BK0.out hb1) (HB0.out.trans (hb1.mono HB0.out.size)) (by omega) (Nat.le_refl _)); clear hb1 hf hg HR BK0 HB0 hws)
    | (go_at_call 64; refine (B0.out.kind HL.out (by decide) h1 HE0.out H8.out).mono ?_; rintro en w2 ⟨rfl, hb⟩; have c0 : w2.cell? ⟨w1.heap.size, 0, none⟩ = some (.int .i64 0) := blk_cell hb.box 0; have z0 := blk_frozen hb.box 0; have B1 := Aside0.mk (hb.set 0 (.int .i64 4)); clear hb B0)
    | (go_at_call 66; (with_reducible refine (B1.out.int HE1.out HL.out (by decide) HZ.out).mono ?_); rintro en w3 ⟨rfl, hb⟩; clear c0 z0; have c1 : w3.cell? ⟨w1.heap.size, 8, none⟩ = some (.int .i64 0) := blk_cell hb.box 8; have z1 := blk_frozen hb.box 8; have B2 := Aside0.mk (hb.set 8 (.int .i64 v1)); clear hb B1)
    | (go_at_call 66; (with_reducible refine (B2.out.int HE2.out HL.out (by decide) HZ.out).mono ?_); rintro en w4 ⟨rfl, hb⟩; clear c1 z1; have c2 : w4.cell? ⟨w1.heap.size, 9, none⟩ = some (.int .i64 0) := blk_cell hb.box 9; have z2 := blk_frozen hb.box 9; have B3 := Aside0.mk (hb.set 9 (.int .i64 v2)); clear hb B2)
    | (go_at_call 67; refine (B3.out.done HL.out (by decide) HED.out).mono ?_; rintro en w5 ⟨rfl, hb⟩; clear c2 z2; have hbox : w5.heap[w1.heap.size]? = some (.cells #[.int .i64 (4), .string (⟨#[]⟩), .string (⟨#[]⟩), .int .i64 (0), .int .i64 (0), .int .i64 (0), .int .i64 (0), .int .i64 (0), .int .i64 (v1), .int .i64 (v2)] 31 (0, 0)) := hb.box; have hcb := fun i => blk_cell hbox i; have hcr := fun i => blk_cell hb.res i; have hfr := fun i => blk_frozen hb.res i; have BK := Aside0.mk hb.res; have HLow := Aside0.mk hb.low; clear hb B3 hbox))
  refine bodyPost_ret (results_ctt rfl _ _ w.heap.size 31 #[.int .i64 (4), .string (⟨#[]⟩), .string (⟨#[]⟩), .int .i64 (0), .int .i64 (0), .int .i64 (0), .int .i64 (0), .int .i64 (0), .int .i64 (v1), .int .i64 (v2)] (0, 0) _ rfl (blk_set (blk_set (blk_set (blk_set (blk_set (blk_set (blk_set (blk_set (blk_set (blk_set BK.out 0 (.int .i64 (4))) 1 (.string (⟨#[]⟩))) 2 (.string (⟨#[]⟩))) 3 (.int .i64 (0))) 4 (.int .i64 (0))) 5 (.int .i64 (0))) 6 (.int .i64 (0))) 7 (.int .i64 (0))) 8 (.int .i64 (v1))) 9 (.int .i64 (v2))) Tryd.underlying31 rfl (by kernel_rfl)) rfl ?_
  refine TellIs.mk_ (a := ⟨4, ⟨#[]⟩, ⟨#[]⟩, 0, 0, 0, 0, 0, v1, v2⟩) HD.out ?_
  iterate 10 (with_reducible refine low_set ?_ _ _)
  exact HLow.out
set_option maxRecDepth 100000 in
set_option maxHeartbeats 8000000 in
theorem ref13_k4b (s : ByteArray) (w : World) (hs : s.size ≤ 140737488351232) (F : FormS) (x : Int) (hq : readB s = (some F, x)) (td xd : Int) (h1 : 0 < (fieldsB s).length) (h8 : (fieldsB s)[0].f1 = ⟨#[106]⟩) (hd : doneL (asksT (tellSchema 4) (F.mark 35)).2 = (td, xd)) (hxd : xd ≠ 0) :
    Calls Tryd.prog 21 #[.string s] w (TellIs (tellD s) w) := by
  have HZ : Aside0 (∀ y ∈ fieldsB s, y.f1.size ≤ 512) := ⟨fun y hy => (fieldsB_good s y hy).2.2⟩
  have HR := Aside0.mk (ref_read_walk s (w.alloc (.cells #[.int .i64 0, .string ⟨#[]⟩, .string ⟨#[]⟩, .int .i64 0, .int .i64 0, .int .i64 0, .int .i64 0, .int .i64 0, .int .i64 0, .int .i64 0] 31)) hs)
  have hL : (fieldsB s).length ≤ 1000000 := by have := fieldsB_len s; omega
  obtain ⟨hx, hF, h0, h35, hv35⟩ := readB_some hq
  subst hx
  have HV : Aside0 ((F.vals 35).getD ⟨#[]⟩ = (fieldsB s)[0].f1) := ⟨by rw [hv35]; rfl⟩
  have he0 : F.e = 0 := by rw [hF]; rfl
  rw [hq] at HR
  have BK0 := Aside0.mk (blk_new w (.cells #[.int .i64 0, .string ⟨#[]⟩, .string ⟨#[]⟩, .int .i64 0, .int .i64 0, .int .i64 0, .int .i64 0, .int .i64 0, .int .i64 0, .int .i64 0] 31))
  have HB0 : Aside0 (Below w.heap.size w (w.alloc (.cells #[.int .i64 0, .string ⟨#[]⟩, .string ⟨#[]⟩, .int .i64 0, .int .i64 0, .int .i64 0, .int .i64 0, .int .i64 0, .int .i64 0, .int .i64 0] 31))) := ⟨(Below.refl _ _).alloc (Nat.le_refl _) _⟩
  have hws : (w.alloc (.cells #[.int .i64 0, .string ⟨#[]⟩, .string ⟨#[]⟩, .int .i64 0, .int .i64 0, .int .i64 0, .int .i64 0, .int .i64 0, .int .i64 0, .int .i64 0] 31)).heap.size = w.heap.size + 1 := World.size_alloc _ _
  rw [h8] at HV
  obtain ⟨v1, F1, E1⟩ : ∃ v F', askL (fun s => takeInt s 0 99999) 0 (F.mark 35) 371 = (v, F') := ⟨_, _, rfl⟩
  obtain ⟨v2, F2, E2⟩ : ∃ v F', askL (fun s => takeInt s 0 999) 0 F1 380 = (v, F') := ⟨_, _, rfl⟩
  have ha : asksT (tellSchema 4) (F.mark 35) = ([.n v1, .n v2], F2) := by
    rw [show tellSchema 4 = [.int 371 0 99999, .int 380 0 999] from rfl, asksT_int E1, asksT_int E2]
    rfl
  rw [ha] at hd
  have ED : doneL F2 = (td, xd) := hd
  have HD := Aside0.mk (tellD_bad hq HV.out (by decide) (by decide) ha ED hxd)
  have t1 : (xd != 0) = true := by rw [bne_iff_ne]; exact hxd
  have HE1 := Aside0.mk E1
  have HE2 := Aside0.mk E2
  have HED := Aside0.mk ED
  clear ha hd ED hF hv35 h35 hq E1 E2 hxd
  generalize fieldsB s = L at *
  have HL := Aside0.mk hL
  have H8 := Aside0.mk h8
  have HE0 := Aside0.mk he0
  clear hL h8 he0
  go_enter Tryd.func21, Tryd.ntmps21
  go_wp2_with (first
    | (go_at_call 63; refine HR.out.mono ?_; rintro en w1 ⟨hb1, g, A, c, rfl, hf, hg⟩; rw [hws] at hg; have B0 := Aside0.mk (RefBox.start (w := w) (T := 31) (Z0 := #[.int .i64 0, .string ⟨#[]⟩, .string ⟨#[]⟩, .int .i64 0, .int .i64 0, .int .i64 0, .int .i64 0, .int .i64 0, .int .i64 0, .int .i64 0]) hf (blk_below BK0.out hb1) (HB0.out.trans (hb1.mono HB0.out.size)) (by omega) (Nat.le_refl _)); clear hb1 hf hg HR BK0 HB0 hws)
    | (go_at_call 64; refine (B0.out.kind HL.out (by decide) h1 HE0.out H8.out).mono ?_; rintro en w2 ⟨rfl, hb⟩; have c0 : w2.cell? ⟨w1.heap.size, 0, none⟩ = some (.int .i64 0) := blk_cell hb.box 0; have z0 := blk_frozen hb.box 0; have B1 := Aside0.mk (hb.set 0 (.int .i64 4)); clear hb B0)
    | (go_at_call 66; (with_reducible refine (B1.out.int HE1.out HL.out (by decide) HZ.out).mono ?_); rintro en w3 ⟨rfl, hb⟩; clear c0 z0; have c1 : w3.cell? ⟨w1.heap.size, 8, none⟩ = some (.int .i64 0) := blk_cell hb.box 8; have z1 := blk_frozen hb.box 8; have B2 := Aside0.mk (hb.set 8 (.int .i64 v1)); clear hb B1)
    | (go_at_call 66; (with_reducible refine (B2.out.int HE2.out HL.out (by decide) HZ.out).mono ?_); rintro en w4 ⟨rfl, hb⟩; clear c1 z1; have c2 : w4.cell? ⟨w1.heap.size, 9, none⟩ = some (.int .i64 0) := blk_cell hb.box 9; have z2 := blk_frozen hb.box 9; have B3 := Aside0.mk (hb.set 9 (.int .i64 v2)); clear hb B2)
    | (go_at_call 67; refine (B3.out.done HL.out (by decide) HED.out).mono ?_; rintro en w5 ⟨rfl, hb⟩; clear c2 z2; have hbox : w5.heap[w1.heap.size]? = some (.cells #[.int .i64 (4), .string (⟨#[]⟩), .string (⟨#[]⟩), .int .i64 (0), .int .i64 (0), .int .i64 (0), .int .i64 (0), .int .i64 (0), .int .i64 (v1), .int .i64 (v2)] 31 (0, 0)) := hb.box; have hcb := fun i => blk_cell hbox i; have hcr := fun i => blk_cell hb.res i; have hfr := fun i => blk_frozen hb.res i; have BK := Aside0.mk hb.res; have HLow := Aside0.mk hb.low; clear hb B3 hbox))
  refine bodyPost_ret (results_ctt rfl _ _ w.heap.size 31 #[.int .i64 0, .string ⟨#[]⟩, .string ⟨#[]⟩, .int .i64 0, .int .i64 0, .int .i64 0, .int .i64 0, .int .i64 0, .int .i64 0, .int .i64 0] (0, 0) _ rfl (blk_set (blk_set (blk_set (blk_set (blk_set (blk_set (blk_set (blk_set (blk_set (blk_set BK.out 0 (.int .i64 (zTell.f0))) 1 (.string (zTell.f1))) 2 (.string (zTell.f2))) 3 (.int .i64 (zTell.f3))) 4 (.int .i64 (zTell.f4))) 5 (.int .i64 (zTell.f5))) 6 (.int .i64 (zTell.f6))) 7 (.int .i64 (zTell.f7))) 8 (.int .i64 (zTell.f8))) 9 (.int .i64 (zTell.f9))) Tryd.underlying31 rfl (by kernel_rfl)) rfl ?_
  refine TellIs.mk_ (a := zTell) HD.out ?_
  iterate 10 (with_reducible refine low_set ?_ _ _)
  exact HLow.out
set_option maxRecDepth 100000 in
set_option maxHeartbeats 8000000 in
theorem ref13_zero (s : ByteArray) (w : World) (hs : s.size ≤ 140737488351232) (F : FormS) (x : Int) (hq : readB s = (some F, x)) (h1 : 0 < (fieldsB s).length) (v : ByteArray) (h8 : (fieldsB s)[0].f1 = v) (hk : tellKind v = 0) :
    Calls Tryd.prog 21 #[.string s] w (TellIs (tellD s) w) := by
  have HZ : Aside0 (∀ y ∈ fieldsB s, y.f1.size ≤ 512) := ⟨fun y hy => (fieldsB_good s y hy).2.2⟩
  have HR := Aside0.mk (ref_read_walk s (w.alloc (.cells #[.int .i64 0, .string ⟨#[]⟩, .string ⟨#[]⟩, .int .i64 0, .int .i64 0, .int .i64 0, .int .i64 0, .int .i64 0, .int .i64 0, .int .i64 0] 31)) hs)
  have hL : (fieldsB s).length ≤ 1000000 := by have := fieldsB_len s; omega
  obtain ⟨hx, hF, h0, h35, hv35⟩ := readB_some hq
  subst hx
  have HV : Aside0 ((F.vals 35).getD ⟨#[]⟩ = (fieldsB s)[0].f1) := ⟨by rw [hv35]; rfl⟩
  have he0 : F.e = 0 := by rw [hF]; rfl
  rw [hq] at HR
  have BK0 := Aside0.mk (blk_new w (.cells #[.int .i64 0, .string ⟨#[]⟩, .string ⟨#[]⟩, .int .i64 0, .int .i64 0, .int .i64 0, .int .i64 0, .int .i64 0, .int .i64 0, .int .i64 0] 31))
  have HB0 : Aside0 (Below w.heap.size w (w.alloc (.cells #[.int .i64 0, .string ⟨#[]⟩, .string ⟨#[]⟩, .int .i64 0, .int .i64 0, .int .i64 0, .int .i64 0, .int .i64 0, .int .i64 0, .int .i64 0] 31))) := ⟨(Below.refl _ _).alloc (Nat.le_refl _) _⟩
  have hws : (w.alloc (.cells #[.int .i64 0, .string ⟨#[]⟩, .string ⟨#[]⟩, .int .i64 0, .int .i64 0, .int .i64 0, .int .i64 0, .int .i64 0, .int .i64 0, .int .i64 0] 31)).heap.size = w.heap.size + 1 := World.size_alloc _ _
  rw [h8] at HV
  have HD := Aside0.mk (tellD_zero hq HV.out hk)
  have hne : v ≠ ⟨#[56]⟩ ∧ v ≠ ⟨#[57]⟩ ∧ v ≠ ⟨#[51]⟩ ∧ v ≠ ⟨#[106]⟩ := by
    unfold tellKind at hk
    refine ⟨fun e => ?_, fun e => ?_, fun e => ?_, fun e => ?_⟩ <;> subst e <;> exact absurd hk (by decide)
  have hn : ∀ b : UInt8, v ≠ ⟨#[b]⟩ → (v.toList == [b]) = false := fun b h => by
    rw [ByteArray.toList_eq, beq_eq_false_iff_ne]
    exact fun e => h (ba_ext e)
  have n1 := hn 56 hne.1
  have n2 := hn 57 hne.2.1
  have n3 := hn 51 hne.2.2.1
  have n4 := hn 106 hne.2.2.2
  clear hF hv35 h35 hq hk hne hn
  generalize fieldsB s = L at *
  have HL := Aside0.mk hL
  have H8 := Aside0.mk h8
  have HE0 := Aside0.mk he0
  clear hL h8 he0
  go_enter Tryd.func21, Tryd.ntmps21
  go_wp2_with (first
    | (go_at_call 63; refine HR.out.mono ?_; rintro en w1 ⟨hb1, g, A, c, rfl, hf, hg⟩; rw [hws] at hg; have B0 := Aside0.mk (RefBox.start (w := w) (T := 31) (Z0 := #[.int .i64 0, .string ⟨#[]⟩, .string ⟨#[]⟩, .int .i64 0, .int .i64 0, .int .i64 0, .int .i64 0, .int .i64 0, .int .i64 0, .int .i64 0]) hf (blk_below BK0.out hb1) (HB0.out.trans (hb1.mono HB0.out.size)) (by omega) (Nat.le_refl _)); clear hb1 hf hg HR BK0 HB0 hws)
    | (go_at_call 64; refine (B0.out.kind HL.out (by decide) h1 HE0.out H8.out).mono ?_; rintro en w2 ⟨rfl, hb⟩; have hcr := fun i => blk_cell hb.res i; have hfr := fun i => blk_frozen hb.res i; have BK := Aside0.mk hb.res; have HLow := Aside0.mk hb.low; clear hb B0))
  refine bodyPost_ret (results_ctt rfl _ _ w.heap.size 31 #[.int .i64 0, .string ⟨#[]⟩, .string ⟨#[]⟩, .int .i64 0, .int .i64 0, .int .i64 0, .int .i64 0, .int .i64 0, .int .i64 0, .int .i64 0] (0, 0) _ rfl (blk_set (blk_set (blk_set (blk_set (blk_set (blk_set (blk_set (blk_set (blk_set (blk_set BK.out 0 (.int .i64 (zTell.f0))) 1 (.string (zTell.f1))) 2 (.string (zTell.f2))) 3 (.int .i64 (zTell.f3))) 4 (.int .i64 (zTell.f4))) 5 (.int .i64 (zTell.f5))) 6 (.int .i64 (zTell.f6))) 7 (.int .i64 (zTell.f7))) 8 (.int .i64 (zTell.f8))) 9 (.int .i64 (zTell.f9))) Tryd.underlying31 rfl (by kernel_rfl)) rfl ?_
  refine TellIs.mk_ (a := zTell) HD.out ?_
  iterate 10 (with_reducible refine low_set ?_ _ _)
  exact HLow.out
theorem ref13_Decode_walk (s : ByteArray) (w : World) (hs : s.size ≤ 140737488351232) :
    Calls Tryd.prog 21 #[.string s] w (TellIs (tellD s) w) := by
  rcases hr : readB s with ⟨F, x⟩
  cases F with
  | none =>
    refine ref13_none s w hs x hr ?_
    intro e
    subst e
    unfold readB at hr
    split at hr
    · rename_i g; simp only [Prod.mk.injEq, true_and] at hr; omega
    split at hr
    · simp at hr
    split at hr <;> simp at hr
  | some F =>
    obtain ⟨_, _, h0, _, _⟩ := readB_some hr
    by_cases c1 : (fieldsB s)[0].f1 = ⟨#[56]⟩
    · by_cases hx : (doneL (asksT (tellSchema 1) (F.mark 35)).2).2 = 0
      · exact ref13_k1 s w hs F x hr _ _ h0 c1 rfl hx
      · exact ref13_k1b s w hs F x hr _ _ h0 c1 rfl hx
    by_cases c2 : (fieldsB s)[0].f1 = ⟨#[57]⟩
    · by_cases hx : (doneL (asksT (tellSchema 2) (F.mark 35)).2).2 = 0
      · exact ref13_k2 s w hs F x hr _ _ h0 c2 rfl hx
      · exact ref13_k2b s w hs F x hr _ _ h0 c2 rfl hx
    by_cases c3 : (fieldsB s)[0].f1 = ⟨#[51]⟩
    · by_cases hx : (doneL (asksT (tellSchema 3) (F.mark 35)).2).2 = 0
      · exact ref13_k3 s w hs F x hr _ _ h0 c3 rfl hx
      · exact ref13_k3b s w hs F x hr _ _ h0 c3 rfl hx
    by_cases c4 : (fieldsB s)[0].f1 = ⟨#[106]⟩
    · by_cases hx : (doneL (asksT (tellSchema 4) (F.mark 35)).2).2 = 0
      · exact ref13_k4 s w hs F x hr _ _ h0 c4 rfl hx
      · exact ref13_k4b s w hs F x hr _ _ h0 c4 rfl hx
    exact ref13_zero s w hs F x hr h0 _ rfl (by unfold tellKind; rw [if_neg c1, if_neg c2, if_neg c3, if_neg c4])
def flatT (r : TellV × Int × Int) : Int × ByteArray × ByteArray × Int × Int × Int × Int × Int × Int × Int × Int × Int := (r.1.f0, r.1.f1, r.1.f2, r.1.f3, r.1.f4, r.1.f5, r.1.f6, r.1.f7, r.1.f8, r.1.f9, r.2.1, r.2.2)
def spigotref13_Decode.f (a0 : ByteArray) : Option (Int × ByteArray × ByteArray × Int × Int × Int × Int × Int × Int × Int × Int × Int) := if a0.size ≤ 140737488351232 then some (flatT (tellD a0)) else none
theorem spigotref13_Decode.calls (a0 : ByteArray) (r1 : Int) (r2 : ByteArray) (r3 : ByteArray) (r4 r5 r6 r7 r8 r9 r10 r11 r12 : Int) (w : World) (h : spigotref13_Decode.f a0 = some (r1, r2, r3, r4, r5, r6, r7, r8, r9, r10, r11, r12)) :
    Calls Tryd.prog 21 #[.string a0] w fun e w' => e = .returned (.tuple #[.agg #[.int .i64 r1, .string r2, .string r3, .int .i64 r4, .int .i64 r5, .int .i64 r6, .int .i64 r7, .int .i64 r8, .int .i64 r9, .int .i64 r10], .int .i64 r11, .int .i64 r12]) ∧ Below w.heap.size w w' := by
  unfold spigotref13_Decode.f at h
  by_cases c : a0.size ≤ 140737488351232
  · rw [if_pos c] at h
    have hw := ref13_Decode_walk a0 w c
    unfold flatT at h
    simp only [Option.some.injEq, Prod.mk.injEq] at h
    obtain ⟨rfl, rfl, rfl, rfl, rfl, rfl, rfl, rfl, rfl, rfl, rfl, rfl⟩ := h
    exact hw
  · rw [if_neg c] at h; cases h
end Go.Proofs.YtgfigkfcmkdjdaaDoor.B
end
