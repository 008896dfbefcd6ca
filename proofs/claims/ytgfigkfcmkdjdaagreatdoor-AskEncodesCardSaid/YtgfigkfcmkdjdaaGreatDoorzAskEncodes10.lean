/- The functions that the law reaches, as plain Lean functions, and their contracts: texts merged. -/
import Derived.Laws.StructEq
import Derived.Test.YtgfigkfcmkdjdaaGreatDoorzAskEncodes2
import Derived.Test.YtgfigkfcmkdjdaaGreatDoorzAskEncodes0
import Derived.Test.YtgfigkfcmkdjdaaGreatDoorzAskEncodes1
import Derived.Test.YtgfigkfcmkdjdaaGreatDoorzAskEncodes3
import Derived.Test.YtgfigkfcmkdjdaaGreatDoorzAskEncodes4
import Derived.Test.YtgfigkfcmkdjdaaGreatDoorzAskEncodes5
import Derived.Test.YtgfigkfcmkdjdaaGreatDoorzAskEncodes6
import Derived.Test.YtgfigkfcmkdjdaaGreatDoorzAskEncodes7
import Derived.Test.YtgfigkfcmkdjdaaGreatDoorzAskEncodes8
import Derived.Test.YtgfigkfcmkdjdaaGreatDoorzAskEncodes9
section
namespace Go.Proofs.YtgfigkfcmkdjdaaGreatDoor.B
open Go.RowKit Go.Proofs.YtgfigkfcmkdjdaaGreatDoorW.PrintWords Go.Proofs.YtgfigkfcmkdjdaaGreatDoorW.PrintLast Go.Proofs.YtgfigkfcmkdjdaaGreatDoorW.PrintMore
attribute [local go_sem] max2_int min2_int max_two min_two max_three min_three max_four min_four   -- for this text's walks alone
set_option linter.unusedVariables false
set_option linter.unusedSimpArgs false
def askCells (a : AskV) (A : Option Addr) (c : Nat) : Array Value := #[.int .i64 a.f0, .string a.f1, .string a.f2, .string a.f3, .string a.f4, .int .i64 a.f5, .int .i64 a.f6, .int .i64 a.f7, .int .i64 a.f8, .int .i64 a.f9, .int .i64 a.f10, .int .i64 a.f11, .int .i64 a.f12, .slice A a.f13.length c]
def askNew : List AskT := [.name 11, .name 1, .name 55, .int 54 1 2, .int 38 1 1099511627776, .int 44 1 1099511627776, .int 5001 1 4, .int 5002 0 1099511627776, .int 5003 0 1099511627776]
def askAmend : List AskT := [.name 11, .name 41, .int 38 1 1099511627776, .int 44 1 1099511627776, .int 5003 0 1099511627776]
def askBare : List AskT := [.name 11, .name 41]
def algSch (al : Int) : List AskT := if al = 2 then [.ints 5006 (fun s => takeInts s 64 0 1048576)] else if al = 3 then [.int 5004 1 10000] else if al = 4 then [.int 5005 1 1099511627776] else []
def askNewOf : List ValT → List ValT → AskV
  | [v1, v2, v3, v4, v5, v6, v7, v8, v9], x => ⟨1, v1.str, ⟨#[]⟩, v2.str, v3.str, v4.num, v5.num, v6.num, v7.num, v8.num, v9.num, if v7.num = 3 then (x.headD (.n 0)).num else 0, if v7.num = 4 then (x.headD (.n 0)).num else 0, if v7.num = 2 then (x.headD (.l [])).nums else []⟩
  | _, _ => ⟨1, ⟨#[]⟩, ⟨#[]⟩, ⟨#[]⟩, ⟨#[]⟩, 0, 0, 0, 0, 0, 0, 0, 0, []⟩
def askAmendOf (k : Int) : List ValT → AskV
  | [v1, v2, v3, v4, v5] => ⟨k, v1.str, v2.str, ⟨#[]⟩, ⟨#[]⟩, 0, v3.num, v4.num, 0, 0, v5.num, 0, 0, []⟩
  | _ => ⟨k, ⟨#[]⟩, ⟨#[]⟩, ⟨#[]⟩, ⟨#[]⟩, 0, 0, 0, 0, 0, 0, 0, 0, []⟩
def askBareOf (k : Int) : List ValT → AskV
  | [v1, v2] => ⟨k, v1.str, v2.str, ⟨#[]⟩, ⟨#[]⟩, 0, 0, 0, 0, 0, 0, 0, 0, []⟩
  | _ => ⟨k, ⟨#[]⟩, ⟨#[]⟩, ⟨#[]⟩, ⟨#[]⟩, 0, 0, 0, 0, 0, 0, 0, 0, []⟩
def algOf (l : List ValT) : Int := (l.getD 6 (.n 0)).num
def takeA (k : Int) (F : FormS) : AskV × FormS :=
  if k = 1 then (askNewOf (asksT askNew F).1 (asksT (algSch (algOf (asksT askNew F).1)) (asksT askNew F).2).1, (asksT (algSch (algOf (asksT askNew F).1)) (asksT askNew F).2).2)
  else if k = 3 then (askAmendOf k (asksT askAmend F).1, (asksT askAmend F).2)
  else (askBareOf k (asksT askBare F).1, (asksT askBare F).2)
theorem PrgBox.ints {w : World} {g : Nat} {p : PlS} {L : List S74} {b : Nat} {T : TypeId} {F F' : FormS} {k : Nat} {cs : Array Value} {W : World} (h : PrgBox w g p L b T F k cs W) (hT : Tabs_ w) {t most low high : Int} {v : List Int} (E : askL (fun s => takeInts s most low high) [] F t = (v, F')) (ht : i64ok t) (hk : k ≤ 1000) (hz : ∀ y ∈ L, y.f1.size ≤ 512) :
    Calls Tryz.prog 60 #[.pointer (some ⟨g, 0, none⟩), .int .i64 t, .int .i64 most, .int .i64 low, .int .i64 high] W fun e w' => ∃ A c, e = .returned (.slice A v.length c) ∧ Kd.R (Kd.int .i64) 3 w' W.heap.size (fun _ => True) (.slice A v.length c) v ∧ PrgBox w g p L b T F' (k + 1) cs w' ∧ Turned (FormB g p) W w' := by
  have h1 := form_ints g p F k W h.form (by omega) (fun x s hx => by
    rw [h.vals] at hx
    obtain ⟨y, hy, _, rfl⟩ := valsOf_mem _ _ _ hx
    exact hz y hy) (fun X hX => hT.below (h.low.trans (hX.below (fun j hj => hj.elim (fun e => e ▸ h.wg) (fun e => e ▸ h.wa)) h.low.size))) t most low high ht h.form.alt
  have hv := askL_vals (fun s => takeInts s most low high) [] F t
  rw [E] at h1 hv
  exact h1.mono fun e w' hh => by
    obtain ⟨v', he, hR, hf, ht⟩ := hh
    obtain ⟨A, c, rfl, -, -⟩ := Kd.R_reads hR
    exact ⟨A, c, he, hR, h.call hf hv ht, ht⟩
def ReadTo (w : World) (g : Nat) (p : PlS) (L : List S74) (b : Nat) (T : TypeId) (r : AskV × FormS) (e : Ending) (w' : World) : Prop :=
  e = .returned (.tuple #[]) ∧ ∃ A c k, k ≤ 900 ∧ PrgBox w g p L b T r.2 k (askCells r.1 A c) w' ∧ Kd.R (Kd.int .i64) 3 w' w.heap.size (fun j => j ≠ b) (.slice A r.1.f13.length c) r.1.f13
set_option maxRecDepth 100000 in
set_option maxHeartbeats 4000000 in
theorem ask_read_1_x (w : World) (hT : Tabs_ w) (g : Nat) (p : PlS) (L : List S74) (b : Nat) (F : FormS) (k0 : Nat) (W : World) (hal : algOf (asksT askNew F).1 ≠ 2 ∧ algOf (asksT askNew F).1 ≠ 3 ∧ algOf (asksT askNew F).1 ≠ 4) (hk : k0 ≤ 100) (hz : ∀ y ∈ L, y.f1.size ≤ 512) (h : PrgBox w g p L b 24 F k0 #[.int .i64 1, .string ⟨#[]⟩, .string ⟨#[]⟩, .string ⟨#[]⟩, .string ⟨#[]⟩, .int .i64 0, .int .i64 0, .int .i64 0, .int .i64 0, .int .i64 0, .int .i64 0, .int .i64 0, .int .i64 0, .slice none 0 0] W) :
    Calls Tryz.prog 30 #[.pointer (some ⟨g, 0, none⟩), .pointer (some ⟨b, 0, none⟩)] W (ReadTo w g p L b 24 (takeA 1 F)) := by
  have HZ := Aside0.mk hz
  have HT := Aside0.mk hT
  have HW0 := Aside0.mk h.low.size
  obtain ⟨v1, F1, E1⟩ : ∃ v F', askL takeName ⟨#[]⟩ F 11 = (v, F') := ⟨_, _, rfl⟩
  obtain ⟨v2, F2, E2⟩ : ∃ v F', askL takeName ⟨#[]⟩ F1 1 = (v, F') := ⟨_, _, rfl⟩
  obtain ⟨v3, F3, E3⟩ : ∃ v F', askL takeName ⟨#[]⟩ F2 55 = (v, F') := ⟨_, _, rfl⟩
  obtain ⟨v4, F4, E4⟩ : ∃ v F', askL (fun s => takeInt s 1 2) 0 F3 54 = (v, F') := ⟨_, _, rfl⟩
  obtain ⟨v5, F5, E5⟩ : ∃ v F', askL (fun s => takeInt s 1 1099511627776) 0 F4 38 = (v, F') := ⟨_, _, rfl⟩
  obtain ⟨v6, F6, E6⟩ : ∃ v F', askL (fun s => takeInt s 1 1099511627776) 0 F5 44 = (v, F') := ⟨_, _, rfl⟩
  obtain ⟨v7, F7, E7⟩ : ∃ v F', askL (fun s => takeInt s 1 4) 0 F6 5001 = (v, F') := ⟨_, _, rfl⟩
  obtain ⟨v8, F8, E8⟩ : ∃ v F', askL (fun s => takeInt s 0 1099511627776) 0 F7 5002 = (v, F') := ⟨_, _, rfl⟩
  obtain ⟨v9, F9, E9⟩ : ∃ v F', askL (fun s => takeInt s 0 1099511627776) 0 F8 5003 = (v, F') := ⟨_, _, rfl⟩
  have ha : asksT askNew F = ([.s v1, .s v2, .s v3, .n v4, .n v5, .n v6, .n v7, .n v8, .n v9], F9) := by
    rw [show askNew = [.name 11, .name 1, .name 55, .int 54 1 2, .int 38 1 1099511627776, .int 44 1 1099511627776, .int 5001 1 4, .int 5002 0 1099511627776, .int 5003 0 1099511627776] from rfl, asksT_name E1, asksT_name E2, asksT_name E3, asksT_int E4, asksT_int E5, asksT_int E6, asksT_int E7, asksT_int E8, asksT_int E9]; rfl
  rw [ha] at hal
  have hal' : v7 ≠ 2 ∧ v7 ≠ 3 ∧ v7 ≠ 4 := hal
  have q2 : ¬ v7 = 2 := hal'.1
  have q3 : ¬ v7 = 3 := hal'.2.1
  have q4 : ¬ v7 = 4 := hal'.2.2
  have hsc : algSch v7 = [] := by unfold algSch; rw [if_neg q2, if_neg q3, if_neg q4]
  have hb2 : asksT (algSch v7) F9 = ([], F9) := by rw [hsc]; rfl
  have HR0 : Aside0 (takeA 1 F = (⟨1, v1, ⟨#[]⟩, v2, v3, v4, v5, v6, v7, v8, v9, 0, 0, []⟩, F9)) := ⟨by unfold takeA; rw [if_pos rfl, ha, show algOf [.s v1, .s v2, .s v3, .n v4, .n v5, .n v6, .n v7, .n v8, .n v9] = v7 from rfl, hb2]; simp [askNewOf, ValT.num, ValT.str, ValT.nums, q2, q3, q4]⟩
  have t3 : (v7 == 2) = false := beq_eq_false_iff_ne.2 q2
  have t4 : (v7 == 3) = false := beq_eq_false_iff_ne.2 q3
  have t5 : (v7 == 4) = false := beq_eq_false_iff_ne.2 q4
  have HE1 := Aside0.mk E1
  have HE2 := Aside0.mk E2
  have HE3 := Aside0.mk E3
  have HE4 := Aside0.mk E4
  have HE5 := Aside0.mk E5
  have HE6 := Aside0.mk E6
  have HE7 := Aside0.mk E7
  have HE8 := Aside0.mk E8
  have HE9 := Aside0.mk E9
  have B0 := Aside0.mk h
  have HK := Aside0.mk hk
  have hbx := h.box
  have hc := fun i => blk_cell hbx i
  have hzz := fun i => blk_frozen hbx i
  clear ha h hk hz hT hbx E1 E2 E3 E4 E5 E6 E7 E8 E9 hb2 hsc hal hal' q2 q3 q4
  go_enter Tryz.func30, Tryz.ntmps30
  go_wp2_with (first
    | (go_at_call 58; ((with_reducible refine (B0.out.name HE1.out (i64ok_of (by decide) (by decide)) (by have := HK.out; omega) HZ.out).mono ?_)); rintro en w11 ⟨rfl, hb, -⟩; clear hc hzz; have hbx : w11.heap[b]? = some (.cells #[.int .i64 1, .string ⟨#[]⟩, .string ⟨#[]⟩, .string ⟨#[]⟩, .string ⟨#[]⟩, .int .i64 0, .int .i64 0, .int .i64 0, .int .i64 0, .int .i64 0, .int .i64 0, .int .i64 0, .int .i64 0, .slice none 0 0] 24 (0, 0)) := hb.box; have hc := fun i => blk_cell hbx i; have hzz := fun i => blk_frozen hbx i; have B1 : Aside0 (PrgBox w g p L b 24 F1 _ #[.int .i64 1, .string v1, .string ⟨#[]⟩, .string ⟨#[]⟩, .string ⟨#[]⟩, .int .i64 0, .int .i64 0, .int .i64 0, .int .i64 0, .int .i64 0, .int .i64 0, .int .i64 0, .int .i64 0, .slice none 0 0] _) := ⟨hb.set 1 (.string v1)⟩; clear hbx hb B0)
    | (go_at_call 58; ((with_reducible refine (B1.out.name HE2.out (i64ok_of (by decide) (by decide)) (by have := HK.out; omega) HZ.out).mono ?_)); rintro en w12 ⟨rfl, hb, -⟩; clear hc hzz; have hbx : w12.heap[b]? = some (.cells #[.int .i64 1, .string v1, .string ⟨#[]⟩, .string ⟨#[]⟩, .string ⟨#[]⟩, .int .i64 0, .int .i64 0, .int .i64 0, .int .i64 0, .int .i64 0, .int .i64 0, .int .i64 0, .int .i64 0, .slice none 0 0] 24 (0, 0)) := hb.box; have hc := fun i => blk_cell hbx i; have hzz := fun i => blk_frozen hbx i; have B2 : Aside0 (PrgBox w g p L b 24 F2 _ #[.int .i64 1, .string v1, .string ⟨#[]⟩, .string v2, .string ⟨#[]⟩, .int .i64 0, .int .i64 0, .int .i64 0, .int .i64 0, .int .i64 0, .int .i64 0, .int .i64 0, .int .i64 0, .slice none 0 0] _) := ⟨hb.set 3 (.string v2)⟩; clear hbx hb B1)
    | (go_at_call 58; ((with_reducible refine (B2.out.name HE3.out (i64ok_of (by decide) (by decide)) (by have := HK.out; omega) HZ.out).mono ?_)); rintro en w13 ⟨rfl, hb, -⟩; clear hc hzz; have hbx : w13.heap[b]? = some (.cells #[.int .i64 1, .string v1, .string ⟨#[]⟩, .string v2, .string ⟨#[]⟩, .int .i64 0, .int .i64 0, .int .i64 0, .int .i64 0, .int .i64 0, .int .i64 0, .int .i64 0, .int .i64 0, .slice none 0 0] 24 (0, 0)) := hb.box; have hc := fun i => blk_cell hbx i; have hzz := fun i => blk_frozen hbx i; have B3 : Aside0 (PrgBox w g p L b 24 F3 _ #[.int .i64 1, .string v1, .string ⟨#[]⟩, .string v2, .string v3, .int .i64 0, .int .i64 0, .int .i64 0, .int .i64 0, .int .i64 0, .int .i64 0, .int .i64 0, .int .i64 0, .slice none 0 0] _) := ⟨hb.set 4 (.string v3)⟩; clear hbx hb B2)
    | (go_at_call 59; ((with_reducible refine (B3.out.int HE4.out (i64ok_of (by decide) (by decide)) (by have := HK.out; omega) HZ.out).mono ?_)); rintro en w14 ⟨rfl, hb, -⟩; clear hc hzz; have hbx : w14.heap[b]? = some (.cells #[.int .i64 1, .string v1, .string ⟨#[]⟩, .string v2, .string v3, .int .i64 0, .int .i64 0, .int .i64 0, .int .i64 0, .int .i64 0, .int .i64 0, .int .i64 0, .int .i64 0, .slice none 0 0] 24 (0, 0)) := hb.box; have hc := fun i => blk_cell hbx i; have hzz := fun i => blk_frozen hbx i; have B4 : Aside0 (PrgBox w g p L b 24 F4 _ #[.int .i64 1, .string v1, .string ⟨#[]⟩, .string v2, .string v3, .int .i64 v4, .int .i64 0, .int .i64 0, .int .i64 0, .int .i64 0, .int .i64 0, .int .i64 0, .int .i64 0, .slice none 0 0] _) := ⟨hb.set 5 (.int .i64 v4)⟩; clear hbx hb B3)
    | (go_at_call 59; ((with_reducible refine (B4.out.int HE5.out (i64ok_of (by decide) (by decide)) (by have := HK.out; omega) HZ.out).mono ?_)); rintro en w15 ⟨rfl, hb, -⟩; clear hc hzz; have hbx : w15.heap[b]? = some (.cells #[.int .i64 1, .string v1, .string ⟨#[]⟩, .string v2, .string v3, .int .i64 v4, .int .i64 0, .int .i64 0, .int .i64 0, .int .i64 0, .int .i64 0, .int .i64 0, .int .i64 0, .slice none 0 0] 24 (0, 0)) := hb.box; have hc := fun i => blk_cell hbx i; have hzz := fun i => blk_frozen hbx i; have B5 : Aside0 (PrgBox w g p L b 24 F5 _ #[.int .i64 1, .string v1, .string ⟨#[]⟩, .string v2, .string v3, .int .i64 v4, .int .i64 v5, .int .i64 0, .int .i64 0, .int .i64 0, .int .i64 0, .int .i64 0, .int .i64 0, .slice none 0 0] _) := ⟨hb.set 6 (.int .i64 v5)⟩; clear hbx hb B4)
    | (go_at_call 59; ((with_reducible refine (B5.out.int HE6.out (i64ok_of (by decide) (by decide)) (by have := HK.out; omega) HZ.out).mono ?_)); rintro en w16 ⟨rfl, hb, -⟩; clear hc hzz; have hbx : w16.heap[b]? = some (.cells #[.int .i64 1, .string v1, .string ⟨#[]⟩, .string v2, .string v3, .int .i64 v4, .int .i64 v5, .int .i64 0, .int .i64 0, .int .i64 0, .int .i64 0, .int .i64 0, .int .i64 0, .slice none 0 0] 24 (0, 0)) := hb.box; have hc := fun i => blk_cell hbx i; have hzz := fun i => blk_frozen hbx i; have B6 : Aside0 (PrgBox w g p L b 24 F6 _ #[.int .i64 1, .string v1, .string ⟨#[]⟩, .string v2, .string v3, .int .i64 v4, .int .i64 v5, .int .i64 v6, .int .i64 0, .int .i64 0, .int .i64 0, .int .i64 0, .int .i64 0, .slice none 0 0] _) := ⟨hb.set 7 (.int .i64 v6)⟩; clear hbx hb B5)
    | (go_at_call 59; ((with_reducible refine (B6.out.int HE7.out (i64ok_of (by decide) (by decide)) (by have := HK.out; omega) HZ.out).mono ?_)); rintro en w17 ⟨rfl, hb, -⟩; clear hc hzz; have hbx : w17.heap[b]? = some (.cells #[.int .i64 1, .string v1, .string ⟨#[]⟩, .string v2, .string v3, .int .i64 v4, .int .i64 v5, .int .i64 v6, .int .i64 0, .int .i64 0, .int .i64 0, .int .i64 0, .int .i64 0, .slice none 0 0] 24 (0, 0)) := hb.box; have hc := fun i => blk_cell hbx i; have hzz := fun i => blk_frozen hbx i; have B7 : Aside0 (PrgBox w g p L b 24 F7 _ #[.int .i64 1, .string v1, .string ⟨#[]⟩, .string v2, .string v3, .int .i64 v4, .int .i64 v5, .int .i64 v6, .int .i64 v7, .int .i64 0, .int .i64 0, .int .i64 0, .int .i64 0, .slice none 0 0] _) := ⟨hb.set 8 (.int .i64 v7)⟩; clear hbx hb B6)
    | (go_at_call 59; ((with_reducible refine (B7.out.int HE8.out (i64ok_of (by decide) (by decide)) (by have := HK.out; omega) HZ.out).mono ?_)); rintro en w18 ⟨rfl, hb, -⟩; clear hc hzz; have hbx : w18.heap[b]? = some (.cells #[.int .i64 1, .string v1, .string ⟨#[]⟩, .string v2, .string v3, .int .i64 v4, .int .i64 v5, .int .i64 v6, .int .i64 v7, .int .i64 0, .int .i64 0, .int .i64 0, .int .i64 0, .slice none 0 0] 24 (0, 0)) := hb.box; have hc := fun i => blk_cell hbx i; have hzz := fun i => blk_frozen hbx i; have B8 : Aside0 (PrgBox w g p L b 24 F8 _ #[.int .i64 1, .string v1, .string ⟨#[]⟩, .string v2, .string v3, .int .i64 v4, .int .i64 v5, .int .i64 v6, .int .i64 v7, .int .i64 v8, .int .i64 0, .int .i64 0, .int .i64 0, .slice none 0 0] _) := ⟨hb.set 9 (.int .i64 v8)⟩; clear hbx hb B7)
    | (go_at_call 59; ((with_reducible refine (B8.out.int HE9.out (i64ok_of (by decide) (by decide)) (by have := HK.out; omega) HZ.out).mono ?_)); rintro en w19 ⟨rfl, hb, -⟩; clear hc hzz; have hbx : w19.heap[b]? = some (.cells #[.int .i64 1, .string v1, .string ⟨#[]⟩, .string v2, .string v3, .int .i64 v4, .int .i64 v5, .int .i64 v6, .int .i64 v7, .int .i64 v8, .int .i64 0, .int .i64 0, .int .i64 0, .slice none 0 0] 24 (0, 0)) := hb.box; have hc := fun i => blk_cell hbx i; have hzz := fun i => blk_frozen hbx i; have B9 : Aside0 (PrgBox w g p L b 24 F9 _ #[.int .i64 1, .string v1, .string ⟨#[]⟩, .string v2, .string v3, .int .i64 v4, .int .i64 v5, .int .i64 v6, .int .i64 v7, .int .i64 v8, .int .i64 v9, .int .i64 0, .int .i64 0, .slice none 0 0] _) := ⟨hb.set 10 (.int .i64 v9)⟩; clear hbx hb B8))
  go_end0
  rw [HR0.out]
  exact ⟨rfl, _, _, _, by have := HK.out; omega, B9.out, Kd.R_nil _ _ _ _ _⟩
set_option maxRecDepth 100000 in
set_option maxHeartbeats 4000000 in
theorem ask_read_1_2 (w : World) (hT : Tabs_ w) (g : Nat) (p : PlS) (L : List S74) (b : Nat) (F : FormS) (k0 : Nat) (W : World) (hal : algOf (asksT askNew F).1 = 2) (hk : k0 ≤ 100) (hz : ∀ y ∈ L, y.f1.size ≤ 512) (h : PrgBox w g p L b 24 F k0 #[.int .i64 1, .string ⟨#[]⟩, .string ⟨#[]⟩, .string ⟨#[]⟩, .string ⟨#[]⟩, .int .i64 0, .int .i64 0, .int .i64 0, .int .i64 0, .int .i64 0, .int .i64 0, .int .i64 0, .int .i64 0, .slice none 0 0] W) :
    Calls Tryz.prog 30 #[.pointer (some ⟨g, 0, none⟩), .pointer (some ⟨b, 0, none⟩)] W (ReadTo w g p L b 24 (takeA 1 F)) := by
  have HZ := Aside0.mk hz
  have HT := Aside0.mk hT
  have HW0 := Aside0.mk h.low.size
  obtain ⟨v1, F1, E1⟩ : ∃ v F', askL takeName ⟨#[]⟩ F 11 = (v, F') := ⟨_, _, rfl⟩
  obtain ⟨v2, F2, E2⟩ : ∃ v F', askL takeName ⟨#[]⟩ F1 1 = (v, F') := ⟨_, _, rfl⟩
  obtain ⟨v3, F3, E3⟩ : ∃ v F', askL takeName ⟨#[]⟩ F2 55 = (v, F') := ⟨_, _, rfl⟩
  obtain ⟨v4, F4, E4⟩ : ∃ v F', askL (fun s => takeInt s 1 2) 0 F3 54 = (v, F') := ⟨_, _, rfl⟩
  obtain ⟨v5, F5, E5⟩ : ∃ v F', askL (fun s => takeInt s 1 1099511627776) 0 F4 38 = (v, F') := ⟨_, _, rfl⟩
  obtain ⟨v6, F6, E6⟩ : ∃ v F', askL (fun s => takeInt s 1 1099511627776) 0 F5 44 = (v, F') := ⟨_, _, rfl⟩
  obtain ⟨v7, F7, E7⟩ : ∃ v F', askL (fun s => takeInt s 1 4) 0 F6 5001 = (v, F') := ⟨_, _, rfl⟩
  obtain ⟨v8, F8, E8⟩ : ∃ v F', askL (fun s => takeInt s 0 1099511627776) 0 F7 5002 = (v, F') := ⟨_, _, rfl⟩
  obtain ⟨v9, F9, E9⟩ : ∃ v F', askL (fun s => takeInt s 0 1099511627776) 0 F8 5003 = (v, F') := ⟨_, _, rfl⟩
  have ha : asksT askNew F = ([.s v1, .s v2, .s v3, .n v4, .n v5, .n v6, .n v7, .n v8, .n v9], F9) := by
    rw [show askNew = [.name 11, .name 1, .name 55, .int 54 1 2, .int 38 1 1099511627776, .int 44 1 1099511627776, .int 5001 1 4, .int 5002 0 1099511627776, .int 5003 0 1099511627776] from rfl, asksT_name E1, asksT_name E2, asksT_name E3, asksT_int E4, asksT_int E5, asksT_int E6, asksT_int E7, asksT_int E8, asksT_int E9]; rfl
  rw [ha] at hal
  have hal' : v7 = 2 := hal
  have q2 : v7 = 2 := by omega
  have q3 : ¬ v7 = 3 := by omega
  have q4 : ¬ v7 = 4 := by omega
  obtain ⟨v10, F10, E10⟩ : ∃ v F', askL (fun s => takeInts s 64 0 1048576) [] F9 5006 = (v, F') := ⟨_, _, rfl⟩
  have hsc : algSch v7 = [.ints 5006 (fun s => takeInts s 64 0 1048576)] := by unfold algSch; rw [if_pos q2]
  have hb2 : asksT (algSch v7) F9 = ([.l v10], F10) := by
    rw [hsc, asksT_ints E10]; rfl
  have HR0 : Aside0 (takeA 1 F = (⟨1, v1, ⟨#[]⟩, v2, v3, v4, v5, v6, v7, v8, v9, 0, 0, v10⟩, F10)) := ⟨by unfold takeA; rw [if_pos rfl, ha, show algOf [.s v1, .s v2, .s v3, .n v4, .n v5, .n v6, .n v7, .n v8, .n v9] = v7 from rfl, hb2]; simp [askNewOf, ValT.num, ValT.str, ValT.nums, q2, q3, q4]⟩
  have t3 : (v7 == 2) = true := beq_iff_eq.2 q2
  have HE1 := Aside0.mk E1
  have HE2 := Aside0.mk E2
  have HE3 := Aside0.mk E3
  have HE4 := Aside0.mk E4
  have HE5 := Aside0.mk E5
  have HE6 := Aside0.mk E6
  have HE7 := Aside0.mk E7
  have HE8 := Aside0.mk E8
  have HE9 := Aside0.mk E9
  have HE10 := Aside0.mk E10
  have B0 := Aside0.mk h
  have HK := Aside0.mk hk
  have hbx := h.box
  have hc := fun i => blk_cell hbx i
  have hzz := fun i => blk_frozen hbx i
  clear ha h hk hz hT hbx E1 E2 E3 E4 E5 E6 E7 E8 E9 E10 hb2 hsc hal hal' q2 q3 q4
  go_enter Tryz.func30, Tryz.ntmps30
  go_wp2_with (first
    | (go_at_call 58; ((with_reducible refine (B0.out.name HE1.out (i64ok_of (by decide) (by decide)) (by have := HK.out; omega) HZ.out).mono ?_)); rintro en w11 ⟨rfl, hb, -⟩; clear hc hzz; have hbx : w11.heap[b]? = some (.cells #[.int .i64 1, .string ⟨#[]⟩, .string ⟨#[]⟩, .string ⟨#[]⟩, .string ⟨#[]⟩, .int .i64 0, .int .i64 0, .int .i64 0, .int .i64 0, .int .i64 0, .int .i64 0, .int .i64 0, .int .i64 0, .slice none 0 0] 24 (0, 0)) := hb.box; have hc := fun i => blk_cell hbx i; have hzz := fun i => blk_frozen hbx i; have B1 : Aside0 (PrgBox w g p L b 24 F1 _ #[.int .i64 1, .string v1, .string ⟨#[]⟩, .string ⟨#[]⟩, .string ⟨#[]⟩, .int .i64 0, .int .i64 0, .int .i64 0, .int .i64 0, .int .i64 0, .int .i64 0, .int .i64 0, .int .i64 0, .slice none 0 0] _) := ⟨hb.set 1 (.string v1)⟩; clear hbx hb B0)
    | (go_at_call 58; ((with_reducible refine (B1.out.name HE2.out (i64ok_of (by decide) (by decide)) (by have := HK.out; omega) HZ.out).mono ?_)); rintro en w12 ⟨rfl, hb, -⟩; clear hc hzz; have hbx : w12.heap[b]? = some (.cells #[.int .i64 1, .string v1, .string ⟨#[]⟩, .string ⟨#[]⟩, .string ⟨#[]⟩, .int .i64 0, .int .i64 0, .int .i64 0, .int .i64 0, .int .i64 0, .int .i64 0, .int .i64 0, .int .i64 0, .slice none 0 0] 24 (0, 0)) := hb.box; have hc := fun i => blk_cell hbx i; have hzz := fun i => blk_frozen hbx i; have B2 : Aside0 (PrgBox w g p L b 24 F2 _ #[.int .i64 1, .string v1, .string ⟨#[]⟩, .string v2, .string ⟨#[]⟩, .int .i64 0, .int .i64 0, .int .i64 0, .int .i64 0, .int .i64 0, .int .i64 0, .int .i64 0, .int .i64 0, .slice none 0 0] _) := ⟨hb.set 3 (.string v2)⟩; clear hbx hb B1)
    | (go_at_call 58; ((with_reducible refine (B2.out.name HE3.out (i64ok_of (by decide) (by decide)) (by have := HK.out; omega) HZ.out).mono ?_)); rintro en w13 ⟨rfl, hb, -⟩; clear hc hzz; have hbx : w13.heap[b]? = some (.cells #[.int .i64 1, .string v1, .string ⟨#[]⟩, .string v2, .string ⟨#[]⟩, .int .i64 0, .int .i64 0, .int .i64 0, .int .i64 0, .int .i64 0, .int .i64 0, .int .i64 0, .int .i64 0, .slice none 0 0] 24 (0, 0)) := hb.box; have hc := fun i => blk_cell hbx i; have hzz := fun i => blk_frozen hbx i; have B3 : Aside0 (PrgBox w g p L b 24 F3 _ #[.int .i64 1, .string v1, .string ⟨#[]⟩, .string v2, .string v3, .int .i64 0, .int .i64 0, .int .i64 0, .int .i64 0, .int .i64 0, .int .i64 0, .int .i64 0, .int .i64 0, .slice none 0 0] _) := ⟨hb.set 4 (.string v3)⟩; clear hbx hb B2)
    | (go_at_call 59; ((with_reducible refine (B3.out.int HE4.out (i64ok_of (by decide) (by decide)) (by have := HK.out; omega) HZ.out).mono ?_)); rintro en w14 ⟨rfl, hb, -⟩; clear hc hzz; have hbx : w14.heap[b]? = some (.cells #[.int .i64 1, .string v1, .string ⟨#[]⟩, .string v2, .string v3, .int .i64 0, .int .i64 0, .int .i64 0, .int .i64 0, .int .i64 0, .int .i64 0, .int .i64 0, .int .i64 0, .slice none 0 0] 24 (0, 0)) := hb.box; have hc := fun i => blk_cell hbx i; have hzz := fun i => blk_frozen hbx i; have B4 : Aside0 (PrgBox w g p L b 24 F4 _ #[.int .i64 1, .string v1, .string ⟨#[]⟩, .string v2, .string v3, .int .i64 v4, .int .i64 0, .int .i64 0, .int .i64 0, .int .i64 0, .int .i64 0, .int .i64 0, .int .i64 0, .slice none 0 0] _) := ⟨hb.set 5 (.int .i64 v4)⟩; clear hbx hb B3)
    | (go_at_call 59; ((with_reducible refine (B4.out.int HE5.out (i64ok_of (by decide) (by decide)) (by have := HK.out; omega) HZ.out).mono ?_)); rintro en w15 ⟨rfl, hb, -⟩; clear hc hzz; have hbx : w15.heap[b]? = some (.cells #[.int .i64 1, .string v1, .string ⟨#[]⟩, .string v2, .string v3, .int .i64 v4, .int .i64 0, .int .i64 0, .int .i64 0, .int .i64 0, .int .i64 0, .int .i64 0, .int .i64 0, .slice none 0 0] 24 (0, 0)) := hb.box; have hc := fun i => blk_cell hbx i; have hzz := fun i => blk_frozen hbx i; have B5 : Aside0 (PrgBox w g p L b 24 F5 _ #[.int .i64 1, .string v1, .string ⟨#[]⟩, .string v2, .string v3, .int .i64 v4, .int .i64 v5, .int .i64 0, .int .i64 0, .int .i64 0, .int .i64 0, .int .i64 0, .int .i64 0, .slice none 0 0] _) := ⟨hb.set 6 (.int .i64 v5)⟩; clear hbx hb B4)
    | (go_at_call 59; ((with_reducible refine (B5.out.int HE6.out (i64ok_of (by decide) (by decide)) (by have := HK.out; omega) HZ.out).mono ?_)); rintro en w16 ⟨rfl, hb, -⟩; clear hc hzz; have hbx : w16.heap[b]? = some (.cells #[.int .i64 1, .string v1, .string ⟨#[]⟩, .string v2, .string v3, .int .i64 v4, .int .i64 v5, .int .i64 0, .int .i64 0, .int .i64 0, .int .i64 0, .int .i64 0, .int .i64 0, .slice none 0 0] 24 (0, 0)) := hb.box; have hc := fun i => blk_cell hbx i; have hzz := fun i => blk_frozen hbx i; have B6 : Aside0 (PrgBox w g p L b 24 F6 _ #[.int .i64 1, .string v1, .string ⟨#[]⟩, .string v2, .string v3, .int .i64 v4, .int .i64 v5, .int .i64 v6, .int .i64 0, .int .i64 0, .int .i64 0, .int .i64 0, .int .i64 0, .slice none 0 0] _) := ⟨hb.set 7 (.int .i64 v6)⟩; clear hbx hb B5)
    | (go_at_call 59; ((with_reducible refine (B6.out.int HE7.out (i64ok_of (by decide) (by decide)) (by have := HK.out; omega) HZ.out).mono ?_)); rintro en w17 ⟨rfl, hb, -⟩; clear hc hzz; have hbx : w17.heap[b]? = some (.cells #[.int .i64 1, .string v1, .string ⟨#[]⟩, .string v2, .string v3, .int .i64 v4, .int .i64 v5, .int .i64 v6, .int .i64 0, .int .i64 0, .int .i64 0, .int .i64 0, .int .i64 0, .slice none 0 0] 24 (0, 0)) := hb.box; have hc := fun i => blk_cell hbx i; have hzz := fun i => blk_frozen hbx i; have B7 : Aside0 (PrgBox w g p L b 24 F7 _ #[.int .i64 1, .string v1, .string ⟨#[]⟩, .string v2, .string v3, .int .i64 v4, .int .i64 v5, .int .i64 v6, .int .i64 v7, .int .i64 0, .int .i64 0, .int .i64 0, .int .i64 0, .slice none 0 0] _) := ⟨hb.set 8 (.int .i64 v7)⟩; clear hbx hb B6)
    | (go_at_call 59; ((with_reducible refine (B7.out.int HE8.out (i64ok_of (by decide) (by decide)) (by have := HK.out; omega) HZ.out).mono ?_)); rintro en w18 ⟨rfl, hb, -⟩; clear hc hzz; have hbx : w18.heap[b]? = some (.cells #[.int .i64 1, .string v1, .string ⟨#[]⟩, .string v2, .string v3, .int .i64 v4, .int .i64 v5, .int .i64 v6, .int .i64 v7, .int .i64 0, .int .i64 0, .int .i64 0, .int .i64 0, .slice none 0 0] 24 (0, 0)) := hb.box; have hc := fun i => blk_cell hbx i; have hzz := fun i => blk_frozen hbx i; have B8 : Aside0 (PrgBox w g p L b 24 F8 _ #[.int .i64 1, .string v1, .string ⟨#[]⟩, .string v2, .string v3, .int .i64 v4, .int .i64 v5, .int .i64 v6, .int .i64 v7, .int .i64 v8, .int .i64 0, .int .i64 0, .int .i64 0, .slice none 0 0] _) := ⟨hb.set 9 (.int .i64 v8)⟩; clear hbx hb B7)
    | (go_at_call 59; ((with_reducible refine (B8.out.int HE9.out (i64ok_of (by decide) (by decide)) (by have := HK.out; omega) HZ.out).mono ?_)); rintro en w19 ⟨rfl, hb, -⟩; clear hc hzz; have hbx : w19.heap[b]? = some (.cells #[.int .i64 1, .string v1, .string ⟨#[]⟩, .string v2, .string v3, .int .i64 v4, .int .i64 v5, .int .i64 v6, .int .i64 v7, .int .i64 v8, .int .i64 0, .int .i64 0, .int .i64 0, .slice none 0 0] 24 (0, 0)) := hb.box; have hc := fun i => blk_cell hbx i; have hzz := fun i => blk_frozen hbx i; have B9 : Aside0 (PrgBox w g p L b 24 F9 _ #[.int .i64 1, .string v1, .string ⟨#[]⟩, .string v2, .string v3, .int .i64 v4, .int .i64 v5, .int .i64 v6, .int .i64 v7, .int .i64 v8, .int .i64 v9, .int .i64 0, .int .i64 0, .slice none 0 0] _) := ⟨hb.set 10 (.int .i64 v9)⟩; clear hbx hb B8)
    | (go_at_call 60; ((with_reducible refine (B9.out.ints HT.out HE10.out (i64ok_of (by decide) (by decide)) (by have := HK.out; omega) HZ.out).mono ?_)); rintro en w20 ⟨A, c, rfl, hR, hb, -⟩; clear hc hzz; have hbx : w20.heap[b]? = some (.cells #[.int .i64 1, .string v1, .string ⟨#[]⟩, .string v2, .string v3, .int .i64 v4, .int .i64 v5, .int .i64 v6, .int .i64 v7, .int .i64 v8, .int .i64 v9, .int .i64 0, .int .i64 0, .slice none 0 0] 24 (0, 0)) := hb.box; have hc := fun i => blk_cell hbx i; have hzz := fun i => blk_frozen hbx i; have HR := Aside0.mk (Kd.R_lower (Kd.R_mono (Kd.R_bound hR) (ok' := fun j => j ≠ b) (fun j hj => by have h1 := hj.2.1; have h2 := blk_lt B9.out.box; omega)) B9.out.low.size); have B10 : Aside0 (PrgBox w g p L b 24 F10 _ #[.int .i64 1, .string v1, .string ⟨#[]⟩, .string v2, .string v3, .int .i64 v4, .int .i64 v5, .int .i64 v6, .int .i64 v7, .int .i64 v8, .int .i64 v9, .int .i64 0, .int .i64 0, .slice A v10.length c] _) := ⟨hb.set 13 (.slice A v10.length c)⟩; clear hbx hb hR B9))
  go_end0
  rw [HR0.out]
  exact ⟨rfl, _, _, _, by have := HK.out; omega, B10.out, Kd.R_far HR.out (fun _ hj => hj) _⟩
set_option maxRecDepth 100000 in
set_option maxHeartbeats 4000000 in
theorem ask_read_1_3 (w : World) (hT : Tabs_ w) (g : Nat) (p : PlS) (L : List S74) (b : Nat) (F : FormS) (k0 : Nat) (W : World) (hal : algOf (asksT askNew F).1 = 3) (hk : k0 ≤ 100) (hz : ∀ y ∈ L, y.f1.size ≤ 512) (h : PrgBox w g p L b 24 F k0 #[.int .i64 1, .string ⟨#[]⟩, .string ⟨#[]⟩, .string ⟨#[]⟩, .string ⟨#[]⟩, .int .i64 0, .int .i64 0, .int .i64 0, .int .i64 0, .int .i64 0, .int .i64 0, .int .i64 0, .int .i64 0, .slice none 0 0] W) :
    Calls Tryz.prog 30 #[.pointer (some ⟨g, 0, none⟩), .pointer (some ⟨b, 0, none⟩)] W (ReadTo w g p L b 24 (takeA 1 F)) := by
  have HZ := Aside0.mk hz
  have HT := Aside0.mk hT
  have HW0 := Aside0.mk h.low.size
  obtain ⟨v1, F1, E1⟩ : ∃ v F', askL takeName ⟨#[]⟩ F 11 = (v, F') := ⟨_, _, rfl⟩
  obtain ⟨v2, F2, E2⟩ : ∃ v F', askL takeName ⟨#[]⟩ F1 1 = (v, F') := ⟨_, _, rfl⟩
  obtain ⟨v3, F3, E3⟩ : ∃ v F', askL takeName ⟨#[]⟩ F2 55 = (v, F') := ⟨_, _, rfl⟩
  obtain ⟨v4, F4, E4⟩ : ∃ v F', askL (fun s => takeInt s 1 2) 0 F3 54 = (v, F') := ⟨_, _, rfl⟩
  obtain ⟨v5, F5, E5⟩ : ∃ v F', askL (fun s => takeInt s 1 1099511627776) 0 F4 38 = (v, F') := ⟨_, _, rfl⟩
  obtain ⟨v6, F6, E6⟩ : ∃ v F', askL (fun s => takeInt s 1 1099511627776) 0 F5 44 = (v, F') := ⟨_, _, rfl⟩
  obtain ⟨v7, F7, E7⟩ : ∃ v F', askL (fun s => takeInt s 1 4) 0 F6 5001 = (v, F') := ⟨_, _, rfl⟩
  obtain ⟨v8, F8, E8⟩ : ∃ v F', askL (fun s => takeInt s 0 1099511627776) 0 F7 5002 = (v, F') := ⟨_, _, rfl⟩
  obtain ⟨v9, F9, E9⟩ : ∃ v F', askL (fun s => takeInt s 0 1099511627776) 0 F8 5003 = (v, F') := ⟨_, _, rfl⟩
  have ha : asksT askNew F = ([.s v1, .s v2, .s v3, .n v4, .n v5, .n v6, .n v7, .n v8, .n v9], F9) := by
    rw [show askNew = [.name 11, .name 1, .name 55, .int 54 1 2, .int 38 1 1099511627776, .int 44 1 1099511627776, .int 5001 1 4, .int 5002 0 1099511627776, .int 5003 0 1099511627776] from rfl, asksT_name E1, asksT_name E2, asksT_name E3, asksT_int E4, asksT_int E5, asksT_int E6, asksT_int E7, asksT_int E8, asksT_int E9]; rfl
  rw [ha] at hal
  have hal' : v7 = 3 := hal
  have q2 : ¬ v7 = 2 := by omega
  have q3 : v7 = 3 := by omega
  have q4 : ¬ v7 = 4 := by omega
  obtain ⟨v10, F10, E10⟩ : ∃ v F', askL (fun s => takeInt s 1 10000) 0 F9 5004 = (v, F') := ⟨_, _, rfl⟩
  have hsc : algSch v7 = [.int 5004 1 10000] := by unfold algSch; rw [if_neg q2, if_pos q3]
  have hb2 : asksT (algSch v7) F9 = ([.n v10], F10) := by
    rw [hsc, asksT_int E10]; rfl
  have HR0 : Aside0 (takeA 1 F = (⟨1, v1, ⟨#[]⟩, v2, v3, v4, v5, v6, v7, v8, v9, v10, 0, []⟩, F10)) := ⟨by unfold takeA; rw [if_pos rfl, ha, show algOf [.s v1, .s v2, .s v3, .n v4, .n v5, .n v6, .n v7, .n v8, .n v9] = v7 from rfl, hb2]; simp [askNewOf, ValT.num, ValT.str, ValT.nums, q2, q3, q4]⟩
  have t3 : (v7 == 2) = false := beq_eq_false_iff_ne.2 q2
  have t4 : (v7 == 3) = true := beq_iff_eq.2 q3
  have HE1 := Aside0.mk E1
  have HE2 := Aside0.mk E2
  have HE3 := Aside0.mk E3
  have HE4 := Aside0.mk E4
  have HE5 := Aside0.mk E5
  have HE6 := Aside0.mk E6
  have HE7 := Aside0.mk E7
  have HE8 := Aside0.mk E8
  have HE9 := Aside0.mk E9
  have HE10 := Aside0.mk E10
  have B0 := Aside0.mk h
  have HK := Aside0.mk hk
  have hbx := h.box
  have hc := fun i => blk_cell hbx i
  have hzz := fun i => blk_frozen hbx i
  clear ha h hk hz hT hbx E1 E2 E3 E4 E5 E6 E7 E8 E9 E10 hb2 hsc hal hal' q2 q3 q4
  go_enter Tryz.func30, Tryz.ntmps30
  go_wp2_with (first
    | (go_at_call 58; ((with_reducible refine (B0.out.name HE1.out (i64ok_of (by decide) (by decide)) (by have := HK.out; omega) HZ.out).mono ?_)); rintro en w11 ⟨rfl, hb, -⟩; clear hc hzz; have hbx : w11.heap[b]? = some (.cells #[.int .i64 1, .string ⟨#[]⟩, .string ⟨#[]⟩, .string ⟨#[]⟩, .string ⟨#[]⟩, .int .i64 0, .int .i64 0, .int .i64 0, .int .i64 0, .int .i64 0, .int .i64 0, .int .i64 0, .int .i64 0, .slice none 0 0] 24 (0, 0)) := hb.box; have hc := fun i => blk_cell hbx i; have hzz := fun i => blk_frozen hbx i; have B1 : Aside0 (PrgBox w g p L b 24 F1 _ #[.int .i64 1, .string v1, .string ⟨#[]⟩, .string ⟨#[]⟩, .string ⟨#[]⟩, .int .i64 0, .int .i64 0, .int .i64 0, .int .i64 0, .int .i64 0, .int .i64 0, .int .i64 0, .int .i64 0, .slice none 0 0] _) := ⟨hb.set 1 (.string v1)⟩; clear hbx hb B0)
    | (go_at_call 58; ((with_reducible refine (B1.out.name HE2.out (i64ok_of (by decide) (by decide)) (by have := HK.out; omega) HZ.out).mono ?_)); rintro en w12 ⟨rfl, hb, -⟩; clear hc hzz; have hbx : w12.heap[b]? = some (.cells #[.int .i64 1, .string v1, .string ⟨#[]⟩, .string ⟨#[]⟩, .string ⟨#[]⟩, .int .i64 0, .int .i64 0, .int .i64 0, .int .i64 0, .int .i64 0, .int .i64 0, .int .i64 0, .int .i64 0, .slice none 0 0] 24 (0, 0)) := hb.box; have hc := fun i => blk_cell hbx i; have hzz := fun i => blk_frozen hbx i; have B2 : Aside0 (PrgBox w g p L b 24 F2 _ #[.int .i64 1, .string v1, .string ⟨#[]⟩, .string v2, .string ⟨#[]⟩, .int .i64 0, .int .i64 0, .int .i64 0, .int .i64 0, .int .i64 0, .int .i64 0, .int .i64 0, .int .i64 0, .slice none 0 0] _) := ⟨hb.set 3 (.string v2)⟩; clear hbx hb B1)
    | (go_at_call 58; ((with_reducible refine (B2.out.name HE3.out (i64ok_of (by decide) (by decide)) (by have := HK.out; omega) HZ.out).mono ?_)); rintro en w13 ⟨rfl, hb, -⟩; clear hc hzz; have hbx : w13.heap[b]? = some (.cells #[.int .i64 1, .string v1, .string ⟨#[]⟩, .string v2, .string ⟨#[]⟩, .int .i64 0, .int .i64 0, .int .i64 0, .int .i64 0, .int .i64 0, .int .i64 0, .int .i64 0, .int .i64 0, .slice none 0 0] 24 (0, 0)) := hb.box; have hc := fun i => blk_cell hbx i; have hzz := fun i => blk_frozen hbx i; have B3 : Aside0 (PrgBox w g p L b 24 F3 _ #[.int .i64 1, .string v1, .string ⟨#[]⟩, .string v2, .string v3, .int .i64 0, .int .i64 0, .int .i64 0, .int .i64 0, .int .i64 0, .int .i64 0, .int .i64 0, .int .i64 0, .slice none 0 0] _) := ⟨hb.set 4 (.string v3)⟩; clear hbx hb B2)
    | (go_at_call 59; ((with_reducible refine (B3.out.int HE4.out (i64ok_of (by decide) (by decide)) (by have := HK.out; omega) HZ.out).mono ?_)); rintro en w14 ⟨rfl, hb, -⟩; clear hc hzz; have hbx : w14.heap[b]? = some (.cells #[.int .i64 1, .string v1, .string ⟨#[]⟩, .string v2, .string v3, .int .i64 0, .int .i64 0, .int .i64 0, .int .i64 0, .int .i64 0, .int .i64 0, .int .i64 0, .int .i64 0, .slice none 0 0] 24 (0, 0)) := hb.box; have hc := fun i => blk_cell hbx i; have hzz := fun i => blk_frozen hbx i; have B4 : Aside0 (PrgBox w g p L b 24 F4 _ #[.int .i64 1, .string v1, .string ⟨#[]⟩, .string v2, .string v3, .int .i64 v4, .int .i64 0, .int .i64 0, .int .i64 0, .int .i64 0, .int .i64 0, .int .i64 0, .int .i64 0, .slice none 0 0] _) := ⟨hb.set 5 (.int .i64 v4)⟩; clear hbx hb B3)
    | (go_at_call 59; ((with_reducible refine (B4.out.int HE5.out (i64ok_of (by decide) (by decide)) (by have := HK.out; omega) HZ.out).mono ?_)); rintro en w15 ⟨rfl, hb, -⟩; clear hc hzz; have hbx : w15.heap[b]? = some (.cells #[.int .i64 1, .string v1, .string ⟨#[]⟩, .string v2, .string v3, .int .i64 v4, .int .i64 0, .int .i64 0, .int .i64 0, .int .i64 0, .int .i64 0, .int .i64 0, .int .i64 0, .slice none 0 0] 24 (0, 0)) := hb.box; have hc := fun i => blk_cell hbx i; have hzz := fun i => blk_frozen hbx i; have B5 : Aside0 (PrgBox w g p L b 24 F5 _ #[.int .i64 1, .string v1, .string ⟨#[]⟩, .string v2, .string v3, .int .i64 v4, .int .i64 v5, .int .i64 0, .int .i64 0, .int .i64 0, .int .i64 0, .int .i64 0, .int .i64 0, .slice none 0 0] _) := ⟨hb.set 6 (.int .i64 v5)⟩; clear hbx hb B4)
    | (go_at_call 59; ((with_reducible refine (B5.out.int HE6.out (i64ok_of (by decide) (by decide)) (by have := HK.out; omega) HZ.out).mono ?_)); rintro en w16 ⟨rfl, hb, -⟩; clear hc hzz; have hbx : w16.heap[b]? = some (.cells #[.int .i64 1, .string v1, .string ⟨#[]⟩, .string v2, .string v3, .int .i64 v4, .int .i64 v5, .int .i64 0, .int .i64 0, .int .i64 0, .int .i64 0, .int .i64 0, .int .i64 0, .slice none 0 0] 24 (0, 0)) := hb.box; have hc := fun i => blk_cell hbx i; have hzz := fun i => blk_frozen hbx i; have B6 : Aside0 (PrgBox w g p L b 24 F6 _ #[.int .i64 1, .string v1, .string ⟨#[]⟩, .string v2, .string v3, .int .i64 v4, .int .i64 v5, .int .i64 v6, .int .i64 0, .int .i64 0, .int .i64 0, .int .i64 0, .int .i64 0, .slice none 0 0] _) := ⟨hb.set 7 (.int .i64 v6)⟩; clear hbx hb B5)
    | (go_at_call 59; ((with_reducible refine (B6.out.int HE7.out (i64ok_of (by decide) (by decide)) (by have := HK.out; omega) HZ.out).mono ?_)); rintro en w17 ⟨rfl, hb, -⟩; clear hc hzz; have hbx : w17.heap[b]? = some (.cells #[.int .i64 1, .string v1, .string ⟨#[]⟩, .string v2, .string v3, .int .i64 v4, .int .i64 v5, .int .i64 v6, .int .i64 0, .int .i64 0, .int .i64 0, .int .i64 0, .int .i64 0, .slice none 0 0] 24 (0, 0)) := hb.box; have hc := fun i => blk_cell hbx i; have hzz := fun i => blk_frozen hbx i; have B7 : Aside0 (PrgBox w g p L b 24 F7 _ #[.int .i64 1, .string v1, .string ⟨#[]⟩, .string v2, .string v3, .int .i64 v4, .int .i64 v5, .int .i64 v6, .int .i64 v7, .int .i64 0, .int .i64 0, .int .i64 0, .int .i64 0, .slice none 0 0] _) := ⟨hb.set 8 (.int .i64 v7)⟩; clear hbx hb B6)
    | (go_at_call 59; ((with_reducible refine (B7.out.int HE8.out (i64ok_of (by decide) (by decide)) (by have := HK.out; omega) HZ.out).mono ?_)); rintro en w18 ⟨rfl, hb, -⟩; clear hc hzz; have hbx : w18.heap[b]? = some (.cells #[.int .i64 1, .string v1, .string ⟨#[]⟩, .string v2, .string v3, .int .i64 v4, .int .i64 v5, .int .i64 v6, .int .i64 v7, .int .i64 0, .int .i64 0, .int .i64 0, .int .i64 0, .slice none 0 0] 24 (0, 0)) := hb.box; have hc := fun i => blk_cell hbx i; have hzz := fun i => blk_frozen hbx i; have B8 : Aside0 (PrgBox w g p L b 24 F8 _ #[.int .i64 1, .string v1, .string ⟨#[]⟩, .string v2, .string v3, .int .i64 v4, .int .i64 v5, .int .i64 v6, .int .i64 v7, .int .i64 v8, .int .i64 0, .int .i64 0, .int .i64 0, .slice none 0 0] _) := ⟨hb.set 9 (.int .i64 v8)⟩; clear hbx hb B7)
    | (go_at_call 59; ((with_reducible refine (B8.out.int HE9.out (i64ok_of (by decide) (by decide)) (by have := HK.out; omega) HZ.out).mono ?_)); rintro en w19 ⟨rfl, hb, -⟩; clear hc hzz; have hbx : w19.heap[b]? = some (.cells #[.int .i64 1, .string v1, .string ⟨#[]⟩, .string v2, .string v3, .int .i64 v4, .int .i64 v5, .int .i64 v6, .int .i64 v7, .int .i64 v8, .int .i64 0, .int .i64 0, .int .i64 0, .slice none 0 0] 24 (0, 0)) := hb.box; have hc := fun i => blk_cell hbx i; have hzz := fun i => blk_frozen hbx i; have B9 : Aside0 (PrgBox w g p L b 24 F9 _ #[.int .i64 1, .string v1, .string ⟨#[]⟩, .string v2, .string v3, .int .i64 v4, .int .i64 v5, .int .i64 v6, .int .i64 v7, .int .i64 v8, .int .i64 v9, .int .i64 0, .int .i64 0, .slice none 0 0] _) := ⟨hb.set 10 (.int .i64 v9)⟩; clear hbx hb B8)
    | (go_at_call 59; ((with_reducible refine (B9.out.int HE10.out (i64ok_of (by decide) (by decide)) (by have := HK.out; omega) HZ.out).mono ?_)); rintro en w20 ⟨rfl, hb, -⟩; clear hc hzz; have hbx : w20.heap[b]? = some (.cells #[.int .i64 1, .string v1, .string ⟨#[]⟩, .string v2, .string v3, .int .i64 v4, .int .i64 v5, .int .i64 v6, .int .i64 v7, .int .i64 v8, .int .i64 v9, .int .i64 0, .int .i64 0, .slice none 0 0] 24 (0, 0)) := hb.box; have hc := fun i => blk_cell hbx i; have hzz := fun i => blk_frozen hbx i; have B10 : Aside0 (PrgBox w g p L b 24 F10 _ #[.int .i64 1, .string v1, .string ⟨#[]⟩, .string v2, .string v3, .int .i64 v4, .int .i64 v5, .int .i64 v6, .int .i64 v7, .int .i64 v8, .int .i64 v9, .int .i64 v10, .int .i64 0, .slice none 0 0] _) := ⟨hb.set 11 (.int .i64 v10)⟩; clear hbx hb B9))
  go_end0
  rw [HR0.out]
  exact ⟨rfl, _, _, _, by have := HK.out; omega, B10.out, Kd.R_nil _ _ _ _ _⟩
set_option maxRecDepth 100000 in
set_option maxHeartbeats 4000000 in
theorem ask_read_1_4 (w : World) (hT : Tabs_ w) (g : Nat) (p : PlS) (L : List S74) (b : Nat) (F : FormS) (k0 : Nat) (W : World) (hal : algOf (asksT askNew F).1 = 4) (hk : k0 ≤ 100) (hz : ∀ y ∈ L, y.f1.size ≤ 512) (h : PrgBox w g p L b 24 F k0 #[.int .i64 1, .string ⟨#[]⟩, .string ⟨#[]⟩, .string ⟨#[]⟩, .string ⟨#[]⟩, .int .i64 0, .int .i64 0, .int .i64 0, .int .i64 0, .int .i64 0, .int .i64 0, .int .i64 0, .int .i64 0, .slice none 0 0] W) :
    Calls Tryz.prog 30 #[.pointer (some ⟨g, 0, none⟩), .pointer (some ⟨b, 0, none⟩)] W (ReadTo w g p L b 24 (takeA 1 F)) := by
  have HZ := Aside0.mk hz
  have HT := Aside0.mk hT
  have HW0 := Aside0.mk h.low.size
  obtain ⟨v1, F1, E1⟩ : ∃ v F', askL takeName ⟨#[]⟩ F 11 = (v, F') := ⟨_, _, rfl⟩
  obtain ⟨v2, F2, E2⟩ : ∃ v F', askL takeName ⟨#[]⟩ F1 1 = (v, F') := ⟨_, _, rfl⟩
  obtain ⟨v3, F3, E3⟩ : ∃ v F', askL takeName ⟨#[]⟩ F2 55 = (v, F') := ⟨_, _, rfl⟩
  obtain ⟨v4, F4, E4⟩ : ∃ v F', askL (fun s => takeInt s 1 2) 0 F3 54 = (v, F') := ⟨_, _, rfl⟩
  obtain ⟨v5, F5, E5⟩ : ∃ v F', askL (fun s => takeInt s 1 1099511627776) 0 F4 38 = (v, F') := ⟨_, _, rfl⟩
  obtain ⟨v6, F6, E6⟩ : ∃ v F', askL (fun s => takeInt s 1 1099511627776) 0 F5 44 = (v, F') := ⟨_, _, rfl⟩
  obtain ⟨v7, F7, E7⟩ : ∃ v F', askL (fun s => takeInt s 1 4) 0 F6 5001 = (v, F') := ⟨_, _, rfl⟩
  obtain ⟨v8, F8, E8⟩ : ∃ v F', askL (fun s => takeInt s 0 1099511627776) 0 F7 5002 = (v, F') := ⟨_, _, rfl⟩
  obtain ⟨v9, F9, E9⟩ : ∃ v F', askL (fun s => takeInt s 0 1099511627776) 0 F8 5003 = (v, F') := ⟨_, _, rfl⟩
  have ha : asksT askNew F = ([.s v1, .s v2, .s v3, .n v4, .n v5, .n v6, .n v7, .n v8, .n v9], F9) := by
    rw [show askNew = [.name 11, .name 1, .name 55, .int 54 1 2, .int 38 1 1099511627776, .int 44 1 1099511627776, .int 5001 1 4, .int 5002 0 1099511627776, .int 5003 0 1099511627776] from rfl, asksT_name E1, asksT_name E2, asksT_name E3, asksT_int E4, asksT_int E5, asksT_int E6, asksT_int E7, asksT_int E8, asksT_int E9]; rfl
  rw [ha] at hal
  have hal' : v7 = 4 := hal
  have q2 : ¬ v7 = 2 := by omega
  have q3 : ¬ v7 = 3 := by omega
  have q4 : v7 = 4 := by omega
  obtain ⟨v10, F10, E10⟩ : ∃ v F', askL (fun s => takeInt s 1 1099511627776) 0 F9 5005 = (v, F') := ⟨_, _, rfl⟩
  have hsc : algSch v7 = [.int 5005 1 1099511627776] := by unfold algSch; rw [if_neg q2, if_neg q3, if_pos q4]
  have hb2 : asksT (algSch v7) F9 = ([.n v10], F10) := by
    rw [hsc, asksT_int E10]; rfl
  have HR0 : Aside0 (takeA 1 F = (⟨1, v1, ⟨#[]⟩, v2, v3, v4, v5, v6, v7, v8, v9, 0, v10, []⟩, F10)) := ⟨by unfold takeA; rw [if_pos rfl, ha, show algOf [.s v1, .s v2, .s v3, .n v4, .n v5, .n v6, .n v7, .n v8, .n v9] = v7 from rfl, hb2]; simp [askNewOf, ValT.num, ValT.str, ValT.nums, q2, q3, q4]⟩
  have t3 : (v7 == 2) = false := beq_eq_false_iff_ne.2 q2
  have t4 : (v7 == 3) = false := beq_eq_false_iff_ne.2 q3
  have t5 : (v7 == 4) = true := beq_iff_eq.2 q4
  have HE1 := Aside0.mk E1
  have HE2 := Aside0.mk E2
  have HE3 := Aside0.mk E3
  have HE4 := Aside0.mk E4
  have HE5 := Aside0.mk E5
  have HE6 := Aside0.mk E6
  have HE7 := Aside0.mk E7
  have HE8 := Aside0.mk E8
  have HE9 := Aside0.mk E9
  have HE10 := Aside0.mk E10
  have B0 := Aside0.mk h
  have HK := Aside0.mk hk
  have hbx := h.box
  have hc := fun i => blk_cell hbx i
  have hzz := fun i => blk_frozen hbx i
  clear ha h hk hz hT hbx E1 E2 E3 E4 E5 E6 E7 E8 E9 E10 hb2 hsc hal hal' q2 q3 q4
  go_enter Tryz.func30, Tryz.ntmps30
  go_wp2_with (first
    | (go_at_call 58; ((with_reducible refine (B0.out.name HE1.out (i64ok_of (by decide) (by decide)) (by have := HK.out; omega) HZ.out).mono ?_)); rintro en w11 ⟨rfl, hb, -⟩; clear hc hzz; have hbx : w11.heap[b]? = some (.cells #[.int .i64 1, .string ⟨#[]⟩, .string ⟨#[]⟩, .string ⟨#[]⟩, .string ⟨#[]⟩, .int .i64 0, .int .i64 0, .int .i64 0, .int .i64 0, .int .i64 0, .int .i64 0, .int .i64 0, .int .i64 0, .slice none 0 0] 24 (0, 0)) := hb.box; have hc := fun i => blk_cell hbx i; have hzz := fun i => blk_frozen hbx i; have B1 : Aside0 (PrgBox w g p L b 24 F1 _ #[.int .i64 1, .string v1, .string ⟨#[]⟩, .string ⟨#[]⟩, .string ⟨#[]⟩, .int .i64 0, .int .i64 0, .int .i64 0, .int .i64 0, .int .i64 0, .int .i64 0, .int .i64 0, .int .i64 0, .slice none 0 0] _) := ⟨hb.set 1 (.string v1)⟩; clear hbx hb B0)
    | (go_at_call 58; ((with_reducible refine (B1.out.name HE2.out (i64ok_of (by decide) (by decide)) (by have := HK.out; omega) HZ.out).mono ?_)); rintro en w12 ⟨rfl, hb, -⟩; clear hc hzz; have hbx : w12.heap[b]? = some (.cells #[.int .i64 1, .string v1, .string ⟨#[]⟩, .string ⟨#[]⟩, .string ⟨#[]⟩, .int .i64 0, .int .i64 0, .int .i64 0, .int .i64 0, .int .i64 0, .int .i64 0, .int .i64 0, .int .i64 0, .slice none 0 0] 24 (0, 0)) := hb.box; have hc := fun i => blk_cell hbx i; have hzz := fun i => blk_frozen hbx i; have B2 : Aside0 (PrgBox w g p L b 24 F2 _ #[.int .i64 1, .string v1, .string ⟨#[]⟩, .string v2, .string ⟨#[]⟩, .int .i64 0, .int .i64 0, .int .i64 0, .int .i64 0, .int .i64 0, .int .i64 0, .int .i64 0, .int .i64 0, .slice none 0 0] _) := ⟨hb.set 3 (.string v2)⟩; clear hbx hb B1)
    | (go_at_call 58; ((with_reducible refine (B2.out.name HE3.out (i64ok_of (by decide) (by decide)) (by have := HK.out; omega) HZ.out).mono ?_)); rintro en w13 ⟨rfl, hb, -⟩; clear hc hzz; have hbx : w13.heap[b]? = some (.cells #[.int .i64 1, .string v1, .string ⟨#[]⟩, .string v2, .string ⟨#[]⟩, .int .i64 0, .int .i64 0, .int .i64 0, .int .i64 0, .int .i64 0, .int .i64 0, .int .i64 0, .int .i64 0, .slice none 0 0] 24 (0, 0)) := hb.box; have hc := fun i => blk_cell hbx i; have hzz := fun i => blk_frozen hbx i; have B3 : Aside0 (PrgBox w g p L b 24 F3 _ #[.int .i64 1, .string v1, .string ⟨#[]⟩, .string v2, .string v3, .int .i64 0, .int .i64 0, .int .i64 0, .int .i64 0, .int .i64 0, .int .i64 0, .int .i64 0, .int .i64 0, .slice none 0 0] _) := ⟨hb.set 4 (.string v3)⟩; clear hbx hb B2)
    | (go_at_call 59; ((with_reducible refine (B3.out.int HE4.out (i64ok_of (by decide) (by decide)) (by have := HK.out; omega) HZ.out).mono ?_)); rintro en w14 ⟨rfl, hb, -⟩; clear hc hzz; have hbx : w14.heap[b]? = some (.cells #[.int .i64 1, .string v1, .string ⟨#[]⟩, .string v2, .string v3, .int .i64 0, .int .i64 0, .int .i64 0, .int .i64 0, .int .i64 0, .int .i64 0, .int .i64 0, .int .i64 0, .slice none 0 0] 24 (0, 0)) := hb.box; have hc := fun i => blk_cell hbx i; have hzz := fun i => blk_frozen hbx i; have B4 : Aside0 (PrgBox w g p L b 24 F4 _ #[.int .i64 1, .string v1, .string ⟨#[]⟩, .string v2, .string v3, .int .i64 v4, .int .i64 0, .int .i64 0, .int .i64 0, .int .i64 0, .int .i64 0, .int .i64 0, .int .i64 0, .slice none 0 0] _) := ⟨hb.set 5 (.int .i64 v4)⟩; clear hbx hb B3)
    | (go_at_call 59; ((with_reducible refine (B4.out.int HE5.out (i64ok_of (by decide) (by decide)) (by have := HK.out; omega) HZ.out).mono ?_)); rintro en w15 ⟨rfl, hb, -⟩; clear hc hzz; have hbx : w15.heap[b]? = some (.cells #[.int .i64 1, .string v1, .string ⟨#[]⟩, .string v2, .string v3, .int .i64 v4, .int .i64 0, .int .i64 0, .int .i64 0, .int .i64 0, .int .i64 0, .int .i64 0, .int .i64 0, .slice none 0 0] 24 (0, 0)) := hb.box; have hc := fun i => blk_cell hbx i; have hzz := fun i => blk_frozen hbx i; have B5 : Aside0 (PrgBox w g p L b 24 F5 _ #[.int .i64 1, .string v1, .string ⟨#[]⟩, .string v2, .string v3, .int .i64 v4, .int .i64 v5, .int .i64 0, .int .i64 0, .int .i64 0, .int .i64 0, .int .i64 0, .int .i64 0, .slice none 0 0] _) := ⟨hb.set 6 (.int .i64 v5)⟩; clear hbx hb B4)
    | (go_at_call 59; ((with_reducible refine (B5.out.int HE6.out (i64ok_of (by decide) (by decide)) (by have := HK.out; omega) HZ.out).mono ?_)); rintro en w16 ⟨rfl, hb, -⟩; clear hc hzz; have hbx : w16.heap[b]? = some (.cells #[.int .i64 1, .string v1, .string ⟨#[]⟩, .string v2, .string v3, .int .i64 v4, .int .i64 v5, .int .i64 0, .int .i64 0, .int .i64 0, .int .i64 0, .int .i64 0, .int .i64 0, .slice none 0 0] 24 (0, 0)) := hb.box; have hc := fun i => blk_cell hbx i; have hzz := fun i => blk_frozen hbx i; have B6 : Aside0 (PrgBox w g p L b 24 F6 _ #[.int .i64 1, .string v1, .string ⟨#[]⟩, .string v2, .string v3, .int .i64 v4, .int .i64 v5, .int .i64 v6, .int .i64 0, .int .i64 0, .int .i64 0, .int .i64 0, .int .i64 0, .slice none 0 0] _) := ⟨hb.set 7 (.int .i64 v6)⟩; clear hbx hb B5)
    | (go_at_call 59; ((with_reducible refine (B6.out.int HE7.out (i64ok_of (by decide) (by decide)) (by have := HK.out; omega) HZ.out).mono ?_)); rintro en w17 ⟨rfl, hb, -⟩; clear hc hzz; have hbx : w17.heap[b]? = some (.cells #[.int .i64 1, .string v1, .string ⟨#[]⟩, .string v2, .string v3, .int .i64 v4, .int .i64 v5, .int .i64 v6, .int .i64 0, .int .i64 0, .int .i64 0, .int .i64 0, .int .i64 0, .slice none 0 0] 24 (0, 0)) := hb.box; have hc := fun i => blk_cell hbx i; have hzz := fun i => blk_frozen hbx i; have B7 : Aside0 (PrgBox w g p L b 24 F7 _ #[.int .i64 1, .string v1, .string ⟨#[]⟩, .string v2, .string v3, .int .i64 v4, .int .i64 v5, .int .i64 v6, .int .i64 v7, .int .i64 0, .int .i64 0, .int .i64 0, .int .i64 0, .slice none 0 0] _) := ⟨hb.set 8 (.int .i64 v7)⟩; clear hbx hb B6)
    | (go_at_call 59; ((with_reducible refine (B7.out.int HE8.out (i64ok_of (by decide) (by decide)) (by have := HK.out; omega) HZ.out).mono ?_)); rintro en w18 ⟨rfl, hb, -⟩; clear hc hzz; have hbx : w18.heap[b]? = some (.cells #[.int .i64 1, .string v1, .string ⟨#[]⟩, .string v2, .string v3, .int .i64 v4, .int .i64 v5, .int .i64 v6, .int .i64 v7, .int .i64 0, .int .i64 0, .int .i64 0, .int .i64 0, .slice none 0 0] 24 (0, 0)) := hb.box; have hc := fun i => blk_cell hbx i; have hzz := fun i => blk_frozen hbx i; have B8 : Aside0 (PrgBox w g p L b 24 F8 _ #[.int .i64 1, .string v1, .string ⟨#[]⟩, .string v2, .string v3, .int .i64 v4, .int .i64 v5, .int .i64 v6, .int .i64 v7, .int .i64 v8, .int .i64 0, .int .i64 0, .int .i64 0, .slice none 0 0] _) := ⟨hb.set 9 (.int .i64 v8)⟩; clear hbx hb B7)
    | (go_at_call 59; ((with_reducible refine (B8.out.int HE9.out (i64ok_of (by decide) (by decide)) (by have := HK.out; omega) HZ.out).mono ?_)); rintro en w19 ⟨rfl, hb, -⟩; clear hc hzz; have hbx : w19.heap[b]? = some (.cells #[.int .i64 1, .string v1, .string ⟨#[]⟩, .string v2, .string v3, .int .i64 v4, .int .i64 v5, .int .i64 v6, .int .i64 v7, .int .i64 v8, .int .i64 0, .int .i64 0, .int .i64 0, .slice none 0 0] 24 (0, 0)) := hb.box; have hc := fun i => blk_cell hbx i; have hzz := fun i => blk_frozen hbx i; have B9 : Aside0 (PrgBox w g p L b 24 F9 _ #[.int .i64 1, .string v1, .string ⟨#[]⟩, .string v2, .string v3, .int .i64 v4, .int .i64 v5, .int .i64 v6, .int .i64 v7, .int .i64 v8, .int .i64 v9, .int .i64 0, .int .i64 0, .slice none 0 0] _) := ⟨hb.set 10 (.int .i64 v9)⟩; clear hbx hb B8)
    | (go_at_call 59; ((with_reducible refine (B9.out.int HE10.out (i64ok_of (by decide) (by decide)) (by have := HK.out; omega) HZ.out).mono ?_)); rintro en w20 ⟨rfl, hb, -⟩; clear hc hzz; have hbx : w20.heap[b]? = some (.cells #[.int .i64 1, .string v1, .string ⟨#[]⟩, .string v2, .string v3, .int .i64 v4, .int .i64 v5, .int .i64 v6, .int .i64 v7, .int .i64 v8, .int .i64 v9, .int .i64 0, .int .i64 0, .slice none 0 0] 24 (0, 0)) := hb.box; have hc := fun i => blk_cell hbx i; have hzz := fun i => blk_frozen hbx i; have B10 : Aside0 (PrgBox w g p L b 24 F10 _ #[.int .i64 1, .string v1, .string ⟨#[]⟩, .string v2, .string v3, .int .i64 v4, .int .i64 v5, .int .i64 v6, .int .i64 v7, .int .i64 v8, .int .i64 v9, .int .i64 0, .int .i64 v10, .slice none 0 0] _) := ⟨hb.set 12 (.int .i64 v10)⟩; clear hbx hb B9))
  go_end0
  rw [HR0.out]
  exact ⟨rfl, _, _, _, by have := HK.out; omega, B10.out, Kd.R_nil _ _ _ _ _⟩
set_option maxRecDepth 100000 in
set_option maxHeartbeats 4000000 in
theorem ask_read_3 (w : World) (hT : Tabs_ w) (g : Nat) (p : PlS) (L : List S74) (b : Nat) (F : FormS) (k0 : Nat) (W : World) (hk : k0 ≤ 100) (hz : ∀ y ∈ L, y.f1.size ≤ 512) (h : PrgBox w g p L b 24 F k0 #[.int .i64 3, .string ⟨#[]⟩, .string ⟨#[]⟩, .string ⟨#[]⟩, .string ⟨#[]⟩, .int .i64 0, .int .i64 0, .int .i64 0, .int .i64 0, .int .i64 0, .int .i64 0, .int .i64 0, .int .i64 0, .slice none 0 0] W) :
    Calls Tryz.prog 30 #[.pointer (some ⟨g, 0, none⟩), .pointer (some ⟨b, 0, none⟩)] W (ReadTo w g p L b 24 (takeA 3 F)) := by
  have HZ := Aside0.mk hz
  have HT := Aside0.mk hT
  have HW0 := Aside0.mk h.low.size
  obtain ⟨v1, F1, E1⟩ : ∃ v F', askL takeName ⟨#[]⟩ F 11 = (v, F') := ⟨_, _, rfl⟩
  obtain ⟨v2, F2, E2⟩ : ∃ v F', askL takeName ⟨#[]⟩ F1 41 = (v, F') := ⟨_, _, rfl⟩
  obtain ⟨v3, F3, E3⟩ : ∃ v F', askL (fun s => takeInt s 1 1099511627776) 0 F2 38 = (v, F') := ⟨_, _, rfl⟩
  obtain ⟨v4, F4, E4⟩ : ∃ v F', askL (fun s => takeInt s 1 1099511627776) 0 F3 44 = (v, F') := ⟨_, _, rfl⟩
  obtain ⟨v5, F5, E5⟩ : ∃ v F', askL (fun s => takeInt s 0 1099511627776) 0 F4 5003 = (v, F') := ⟨_, _, rfl⟩
  have ha : asksT askAmend F = ([.s v1, .s v2, .n v3, .n v4, .n v5], F5) := by
    rw [show askAmend = [.name 11, .name 41, .int 38 1 1099511627776, .int 44 1 1099511627776, .int 5003 0 1099511627776] from rfl, asksT_name E1, asksT_name E2, asksT_int E3, asksT_int E4, asksT_int E5]; rfl
  have HR0 : Aside0 (takeA 3 F = (⟨3, v1, v2, ⟨#[]⟩, ⟨#[]⟩, 0, v3, v4, 0, 0, v5, 0, 0, []⟩, F5)) := ⟨by unfold takeA; rw [if_neg (by decide), if_pos rfl, ha]; rfl⟩
  have HE1 := Aside0.mk E1
  have HE2 := Aside0.mk E2
  have HE3 := Aside0.mk E3
  have HE4 := Aside0.mk E4
  have HE5 := Aside0.mk E5
  have B0 := Aside0.mk h
  have HK := Aside0.mk hk
  have hbx := h.box
  have hc := fun i => blk_cell hbx i
  have hzz := fun i => blk_frozen hbx i
  clear ha h hk hz hT hbx E1 E2 E3 E4 E5 
  go_enter Tryz.func30, Tryz.ntmps30
  go_wp2_with (first
    | (go_at_call 58; ((with_reducible refine (B0.out.name HE1.out (i64ok_of (by decide) (by decide)) (by have := HK.out; omega) HZ.out).mono ?_)); rintro en w11 ⟨rfl, hb, -⟩; clear hc hzz; have hbx : w11.heap[b]? = some (.cells #[.int .i64 3, .string ⟨#[]⟩, .string ⟨#[]⟩, .string ⟨#[]⟩, .string ⟨#[]⟩, .int .i64 0, .int .i64 0, .int .i64 0, .int .i64 0, .int .i64 0, .int .i64 0, .int .i64 0, .int .i64 0, .slice none 0 0] 24 (0, 0)) := hb.box; have hc := fun i => blk_cell hbx i; have hzz := fun i => blk_frozen hbx i; have B1 : Aside0 (PrgBox w g p L b 24 F1 _ #[.int .i64 3, .string v1, .string ⟨#[]⟩, .string ⟨#[]⟩, .string ⟨#[]⟩, .int .i64 0, .int .i64 0, .int .i64 0, .int .i64 0, .int .i64 0, .int .i64 0, .int .i64 0, .int .i64 0, .slice none 0 0] _) := ⟨hb.set 1 (.string v1)⟩; clear hbx hb B0)
    | (go_at_call 58; ((with_reducible refine (B1.out.name HE2.out (i64ok_of (by decide) (by decide)) (by have := HK.out; omega) HZ.out).mono ?_)); rintro en w12 ⟨rfl, hb, -⟩; clear hc hzz; have hbx : w12.heap[b]? = some (.cells #[.int .i64 3, .string v1, .string ⟨#[]⟩, .string ⟨#[]⟩, .string ⟨#[]⟩, .int .i64 0, .int .i64 0, .int .i64 0, .int .i64 0, .int .i64 0, .int .i64 0, .int .i64 0, .int .i64 0, .slice none 0 0] 24 (0, 0)) := hb.box; have hc := fun i => blk_cell hbx i; have hzz := fun i => blk_frozen hbx i; have B2 : Aside0 (PrgBox w g p L b 24 F2 _ #[.int .i64 3, .string v1, .string v2, .string ⟨#[]⟩, .string ⟨#[]⟩, .int .i64 0, .int .i64 0, .int .i64 0, .int .i64 0, .int .i64 0, .int .i64 0, .int .i64 0, .int .i64 0, .slice none 0 0] _) := ⟨hb.set 2 (.string v2)⟩; clear hbx hb B1)
    | (go_at_call 59; ((with_reducible refine (B2.out.int HE3.out (i64ok_of (by decide) (by decide)) (by have := HK.out; omega) HZ.out).mono ?_)); rintro en w13 ⟨rfl, hb, -⟩; clear hc hzz; have hbx : w13.heap[b]? = some (.cells #[.int .i64 3, .string v1, .string v2, .string ⟨#[]⟩, .string ⟨#[]⟩, .int .i64 0, .int .i64 0, .int .i64 0, .int .i64 0, .int .i64 0, .int .i64 0, .int .i64 0, .int .i64 0, .slice none 0 0] 24 (0, 0)) := hb.box; have hc := fun i => blk_cell hbx i; have hzz := fun i => blk_frozen hbx i; have B3 : Aside0 (PrgBox w g p L b 24 F3 _ #[.int .i64 3, .string v1, .string v2, .string ⟨#[]⟩, .string ⟨#[]⟩, .int .i64 0, .int .i64 v3, .int .i64 0, .int .i64 0, .int .i64 0, .int .i64 0, .int .i64 0, .int .i64 0, .slice none 0 0] _) := ⟨hb.set 6 (.int .i64 v3)⟩; clear hbx hb B2)
    | (go_at_call 59; ((with_reducible refine (B3.out.int HE4.out (i64ok_of (by decide) (by decide)) (by have := HK.out; omega) HZ.out).mono ?_)); rintro en w14 ⟨rfl, hb, -⟩; clear hc hzz; have hbx : w14.heap[b]? = some (.cells #[.int .i64 3, .string v1, .string v2, .string ⟨#[]⟩, .string ⟨#[]⟩, .int .i64 0, .int .i64 v3, .int .i64 0, .int .i64 0, .int .i64 0, .int .i64 0, .int .i64 0, .int .i64 0, .slice none 0 0] 24 (0, 0)) := hb.box; have hc := fun i => blk_cell hbx i; have hzz := fun i => blk_frozen hbx i; have B4 : Aside0 (PrgBox w g p L b 24 F4 _ #[.int .i64 3, .string v1, .string v2, .string ⟨#[]⟩, .string ⟨#[]⟩, .int .i64 0, .int .i64 v3, .int .i64 v4, .int .i64 0, .int .i64 0, .int .i64 0, .int .i64 0, .int .i64 0, .slice none 0 0] _) := ⟨hb.set 7 (.int .i64 v4)⟩; clear hbx hb B3)
    | (go_at_call 59; ((with_reducible refine (B4.out.int HE5.out (i64ok_of (by decide) (by decide)) (by have := HK.out; omega) HZ.out).mono ?_)); rintro en w15 ⟨rfl, hb, -⟩; clear hc hzz; have hbx : w15.heap[b]? = some (.cells #[.int .i64 3, .string v1, .string v2, .string ⟨#[]⟩, .string ⟨#[]⟩, .int .i64 0, .int .i64 v3, .int .i64 v4, .int .i64 0, .int .i64 0, .int .i64 0, .int .i64 0, .int .i64 0, .slice none 0 0] 24 (0, 0)) := hb.box; have hc := fun i => blk_cell hbx i; have hzz := fun i => blk_frozen hbx i; have B5 : Aside0 (PrgBox w g p L b 24 F5 _ #[.int .i64 3, .string v1, .string v2, .string ⟨#[]⟩, .string ⟨#[]⟩, .int .i64 0, .int .i64 v3, .int .i64 v4, .int .i64 0, .int .i64 0, .int .i64 v5, .int .i64 0, .int .i64 0, .slice none 0 0] _) := ⟨hb.set 10 (.int .i64 v5)⟩; clear hbx hb B4))
  go_end0
  rw [HR0.out]
  exact ⟨rfl, _, _, _, by have := HK.out; omega, B5.out, Kd.R_nil _ _ _ _ _⟩
set_option maxRecDepth 100000 in
set_option maxHeartbeats 4000000 in
theorem ask_read_x (w : World) (hT : Tabs_ w) (g : Nat) (p : PlS) (L : List S74) (b : Nat) (F : FormS) (k0 : Nat) (W : World) (kd : Int) (h1 : kd ≠ 1) (h3 : kd ≠ 3) (hk : k0 ≤ 100) (hz : ∀ y ∈ L, y.f1.size ≤ 512) (h : PrgBox w g p L b 24 F k0 #[.int .i64 kd, .string ⟨#[]⟩, .string ⟨#[]⟩, .string ⟨#[]⟩, .string ⟨#[]⟩, .int .i64 0, .int .i64 0, .int .i64 0, .int .i64 0, .int .i64 0, .int .i64 0, .int .i64 0, .int .i64 0, .slice none 0 0] W) :
    Calls Tryz.prog 30 #[.pointer (some ⟨g, 0, none⟩), .pointer (some ⟨b, 0, none⟩)] W (ReadTo w g p L b 24 (takeA kd F)) := by
  have HZ := Aside0.mk hz
  have HT := Aside0.mk hT
  have HW0 := Aside0.mk h.low.size
  obtain ⟨v1, F1, E1⟩ : ∃ v F', askL takeName ⟨#[]⟩ F 11 = (v, F') := ⟨_, _, rfl⟩
  obtain ⟨v2, F2, E2⟩ : ∃ v F', askL takeName ⟨#[]⟩ F1 41 = (v, F') := ⟨_, _, rfl⟩
  have ha : asksT askBare F = ([.s v1, .s v2], F2) := by
    rw [show askBare = [.name 11, .name 41] from rfl, asksT_name E1, asksT_name E2]; rfl
  have HR0 : Aside0 (takeA kd F = (⟨kd, v1, v2, ⟨#[]⟩, ⟨#[]⟩, 0, 0, 0, 0, 0, 0, 0, 0, []⟩, F2)) := ⟨by unfold takeA; rw [if_neg h1, if_neg h3, ha]; rfl⟩
  have t1 : (kd != 1) = true := bne_iff_ne.2 h1
  have t2 : (kd != 3) = true := bne_iff_ne.2 h3
  have HE1 := Aside0.mk E1
  have HE2 := Aside0.mk E2
  have B0 := Aside0.mk h
  have HK := Aside0.mk hk
  have hbx := h.box
  have hc := fun i => blk_cell hbx i
  have hzz := fun i => blk_frozen hbx i
  clear ha h hk hz hT hbx E1 E2 h1 h3
  go_enter Tryz.func30, Tryz.ntmps30
  go_wp2_with (first
    | (go_at_call 58; ((with_reducible refine (B0.out.name HE1.out (i64ok_of (by decide) (by decide)) (by have := HK.out; omega) HZ.out).mono ?_)); rintro en w11 ⟨rfl, hb, -⟩; clear hc hzz; have hbx : w11.heap[b]? = some (.cells #[.int .i64 kd, .string ⟨#[]⟩, .string ⟨#[]⟩, .string ⟨#[]⟩, .string ⟨#[]⟩, .int .i64 0, .int .i64 0, .int .i64 0, .int .i64 0, .int .i64 0, .int .i64 0, .int .i64 0, .int .i64 0, .slice none 0 0] 24 (0, 0)) := hb.box; have hc := fun i => blk_cell hbx i; have hzz := fun i => blk_frozen hbx i; have B1 : Aside0 (PrgBox w g p L b 24 F1 _ #[.int .i64 kd, .string v1, .string ⟨#[]⟩, .string ⟨#[]⟩, .string ⟨#[]⟩, .int .i64 0, .int .i64 0, .int .i64 0, .int .i64 0, .int .i64 0, .int .i64 0, .int .i64 0, .int .i64 0, .slice none 0 0] _) := ⟨hb.set 1 (.string v1)⟩; clear hbx hb B0)
    | (go_at_call 58; ((with_reducible refine (B1.out.name HE2.out (i64ok_of (by decide) (by decide)) (by have := HK.out; omega) HZ.out).mono ?_)); rintro en w12 ⟨rfl, hb, -⟩; clear hc hzz; have hbx : w12.heap[b]? = some (.cells #[.int .i64 kd, .string v1, .string ⟨#[]⟩, .string ⟨#[]⟩, .string ⟨#[]⟩, .int .i64 0, .int .i64 0, .int .i64 0, .int .i64 0, .int .i64 0, .int .i64 0, .int .i64 0, .int .i64 0, .slice none 0 0] 24 (0, 0)) := hb.box; have hc := fun i => blk_cell hbx i; have hzz := fun i => blk_frozen hbx i; have B2 : Aside0 (PrgBox w g p L b 24 F2 _ #[.int .i64 kd, .string v1, .string v2, .string ⟨#[]⟩, .string ⟨#[]⟩, .int .i64 0, .int .i64 0, .int .i64 0, .int .i64 0, .int .i64 0, .int .i64 0, .int .i64 0, .int .i64 0, .slice none 0 0] _) := ⟨hb.set 2 (.string v2)⟩; clear hbx hb B1))
  go_end0
  rw [HR0.out]
  exact ⟨rfl, _, _, _, by have := HK.out; omega, B2.out, Kd.R_nil _ _ _ _ _⟩
theorem ask_read_walk (w : World) (hT : Tabs_ w) (g : Nat) (p : PlS) (L : List S74) (b : Nat) (F : FormS) (k0 : Nat) (W : World) (kd : Int) (hk : k0 ≤ 100) (hz : ∀ y ∈ L, y.f1.size ≤ 512) (h : PrgBox w g p L b 24 F k0 #[.int .i64 kd, .string ⟨#[]⟩, .string ⟨#[]⟩, .string ⟨#[]⟩, .string ⟨#[]⟩, .int .i64 0, .int .i64 0, .int .i64 0, .int .i64 0, .int .i64 0, .int .i64 0, .int .i64 0, .int .i64 0, .slice none 0 0] W) :
    Calls Tryz.prog 30 #[.pointer (some ⟨g, 0, none⟩), .pointer (some ⟨b, 0, none⟩)] W (ReadTo w g p L b 24 (takeA kd F)) := by
  by_cases c1 : kd = 1
  · subst c1
    by_cases a2 : algOf (asksT askNew F).1 = 2
    · exact ask_read_1_2 w hT g p L b F k0 W a2 hk hz h
    by_cases a3 : algOf (asksT askNew F).1 = 3
    · exact ask_read_1_3 w hT g p L b F k0 W a3 hk hz h
    by_cases a4 : algOf (asksT askNew F).1 = 4
    · exact ask_read_1_4 w hT g p L b F k0 W a4 hk hz h
    exact ask_read_1_x w hT g p L b F k0 W ⟨a2, a3, a4⟩ hk hz h
  by_cases c3 : kd = 3
  · subst c3
    exact ask_read_3 w hT g p L b F k0 W hk hz h
  exact ask_read_x w hT g p L b F k0 W kd c1 c3 hk hz h
end Go.Proofs.YtgfigkfcmkdjdaaGreatDoor.B
end
