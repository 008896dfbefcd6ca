/- The functions that the law reaches, as plain Lean functions, and their contracts: texts merged. -/
import Derived.Laws.StructEq
import Derived.Test.YtgfigkfcmkdjdaaDoorzPostOrders3
import Derived.Test.YtgfigkfcmkdjdaaDoorzPostOrders0
import Derived.Test.YtgfigkfcmkdjdaaDoorzPostOrders1
import Derived.Test.YtgfigkfcmkdjdaaDoorzPostOrders2
import Derived.Test.YtgfigkfcmkdjdaaDoorzPostOrders4
import Derived.Test.YtgfigkfcmkdjdaaDoorzPostOrders5
import Derived.Test.YtgfigkfcmkdjdaaDoorzPostOrders6
import Derived.Test.YtgfigkfcmkdjdaaDoorzPostOrders7
import Derived.Test.YtgfigkfcmkdjdaaDoorzPostOrders8
import Derived.Test.YtgfigkfcmkdjdaaDoorzPostOrders9
import Derived.Test.YtgfigkfcmkdjdaaDoorzPostOrders10
import Derived.Test.YtgfigkfcmkdjdaaDoorzPostOrders11
import Derived.Test.YtgfigkfcmkdjdaaDoorzPostOrders12
import Derived.Test.YtgfigkfcmkdjdaaDoorzPostOrders13
section
namespace Go.Proofs.YtgfigkfcmkdjdaaDoor.B
open Go.RowKit Go.Proofs.YtgfigkfcmkdjdaaDoorW.PrintWords Go.Proofs.YtgfigkfcmkdjdaaDoorW.PrintLast Go.Proofs.YtgfigkfcmkdjdaaDoorW.PrintMore
attribute [local go_sem] max2_int min2_int max_two min_two max_three min_three max_four min_four   -- for this text's walks alone
set_option linter.unusedVariables false
set_option linter.unusedSimpArgs false
def zRep : RepV := ⟨0, 0, ⟨#[]⟩, ⟨#[]⟩, 0, 0, ⟨#[]⟩⟩
def repCells (a : RepV) : Array Value := #[.int .i64 a.f0, .int .i64 a.f1, .string a.f2, .string a.f3, .int .i64 a.f4, .int .i64 a.f5, .string a.f6]
def repKind (s : ByteArray) : Nat := if s = ⟨#[48]⟩ then 1 else if s = ⟨#[52]⟩ then 2 else if s = ⟨#[53]⟩ then 3 else if s = ⟨#[56]⟩ then 4 else if s = ⟨#[70]⟩ then 5 else if s = ⟨#[72]⟩ then 6 else 0
def reportP (r : RepV) (F : FormS) : (RepV × Int × Int) × FormS :=
  if (doneL (askL takeName ⟨#[]⟩ (askL takeName ⟨#[]⟩ F 17).2 150).2).2 ≠ 0 ∧ (doneL (askL takeName ⟨#[]⟩ (askL takeName ⟨#[]⟩ F 17).2 150).2).2 ≠ 113 then
    ((⟨r.f0, r.f1, r.f2, (askL takeName ⟨#[]⟩ F 17).1, r.f4, r.f5, r.f6⟩, doneL (askL takeName ⟨#[]⟩ (askL takeName ⟨#[]⟩ F 17).2 150).2), (askL takeName ⟨#[]⟩ (askL takeName ⟨#[]⟩ F 17).2 150).2)
  else if repKind (askL takeName ⟨#[]⟩ (askL takeName ⟨#[]⟩ F 17).2 150).1 = 0 then ((⟨0, r.f1, r.f2, (askL takeName ⟨#[]⟩ F 17).1, r.f4, r.f5, r.f6⟩, 150, 120), (askL takeName ⟨#[]⟩ (askL takeName ⟨#[]⟩ F 17).2 150).2)
  else if repKind (askL takeName ⟨#[]⟩ (askL takeName ⟨#[]⟩ F 17).2 150).1 = 5 then
    ((⟨5, r.f1, r.f2, (askL takeName ⟨#[]⟩ F 17).1, (askL (fun s => takeInt s 1 1099511627776) 0 (askL takeName ⟨#[]⟩ (askL takeName ⟨#[]⟩ F 17).2 150).2 32).1, (askL (fun s => takeInt s 1 1099511627776) 0 (askL (fun s => takeInt s 1 1099511627776) 0 (askL takeName ⟨#[]⟩ (askL takeName ⟨#[]⟩ F 17).2 150).2 32).2 31).1, r.f6⟩, 0, 0),
      (askL (fun s => takeInt s 1 1099511627776) 0 (askL (fun s => takeInt s 1 1099511627776) 0 (askL takeName ⟨#[]⟩ (askL takeName ⟨#[]⟩ F 17).2 150).2 32).2 31).2)
  else if repKind (askL takeName ⟨#[]⟩ (askL takeName ⟨#[]⟩ F 17).2 150).1 = 6 then
    ((⟨6, r.f1, r.f2, (askL takeName ⟨#[]⟩ F 17).1, r.f4, r.f5, (askL takeName ⟨#[]⟩ (askL takeName ⟨#[]⟩ (askL takeName ⟨#[]⟩ F 17).2 150).2 19).1⟩, 0, 0), (askL takeName ⟨#[]⟩ (askL takeName ⟨#[]⟩ (askL takeName ⟨#[]⟩ F 17).2 150).2 19).2)
  else ((⟨(repKind (askL takeName ⟨#[]⟩ (askL takeName ⟨#[]⟩ F 17).2 150).1 : Int), r.f1, r.f2, (askL takeName ⟨#[]⟩ F 17).1, r.f4, r.f5, r.f6⟩, 0, 0), (askL takeName ⟨#[]⟩ (askL takeName ⟨#[]⟩ F 17).2 150).2)
section
variable {r : RepV} {F F1 F2 F3 F4 : FormS} {x wd n : ByteArray} {q z td ed : Int} {k : Nat}
theorem reportP_bad (E1 : askL takeName ⟨#[]⟩ F 17 = (x, F1)) (E2 : askL takeName ⟨#[]⟩ F1 150 = (wd, F2)) (D : doneL F2 = (td, ed)) (h : ed ≠ 0 ∧ ed ≠ 113) : reportP r F = ((⟨r.f0, r.f1, r.f2, x, r.f4, r.f5, r.f6⟩, td, ed), F2) := by
  unfold reportP; rw [E1]; simp only; rw [E2]; simp only; rw [D]; simp only; rw [if_pos h]
theorem reportP_zero (E1 : askL takeName ⟨#[]⟩ F 17 = (x, F1)) (E2 : askL takeName ⟨#[]⟩ F1 150 = (wd, F2)) (D : doneL F2 = (td, ed)) (h : ¬ (ed ≠ 0 ∧ ed ≠ 113)) (hk : repKind wd = 0) : reportP r F = ((⟨0, r.f1, r.f2, x, r.f4, r.f5, r.f6⟩, 150, 120), F2) := by
  unfold reportP; rw [E1]; simp only; rw [E2]; simp only; rw [D]; simp only; rw [if_neg h, if_pos hk]
theorem reportP_5 (E1 : askL takeName ⟨#[]⟩ F 17 = (x, F1)) (E2 : askL takeName ⟨#[]⟩ F1 150 = (wd, F2)) (D : doneL F2 = (td, ed)) (h : ¬ (ed ≠ 0 ∧ ed ≠ 113)) (hk : repKind wd = 5) (E3 : askL (fun s => takeInt s 1 1099511627776) 0 F2 32 = (q, F3)) (E4 : askL (fun s => takeInt s 1 1099511627776) 0 F3 31 = (z, F4)) : reportP r F = ((⟨5, r.f1, r.f2, x, q, z, r.f6⟩, 0, 0), F4) := by
  unfold reportP; rw [E1]; simp only; rw [E2]; simp only; rw [D]; simp only; rw [if_neg h, if_neg (by omega), if_pos hk, E3]; simp only; rw [E4]
theorem reportP_6 (E1 : askL takeName ⟨#[]⟩ F 17 = (x, F1)) (E2 : askL takeName ⟨#[]⟩ F1 150 = (wd, F2)) (D : doneL F2 = (td, ed)) (h : ¬ (ed ≠ 0 ∧ ed ≠ 113)) (hk : repKind wd = 6) (E3 : askL takeName ⟨#[]⟩ F2 19 = (n, F3)) : reportP r F = ((⟨6, r.f1, r.f2, x, r.f4, r.f5, n⟩, 0, 0), F3) := by
  unfold reportP; rw [E1]; simp only; rw [E2]; simp only; rw [D]; simp only; rw [if_neg h, if_neg (by omega), if_neg (by omega), if_pos hk, E3]
theorem reportP_k (E1 : askL takeName ⟨#[]⟩ F 17 = (x, F1)) (E2 : askL takeName ⟨#[]⟩ F1 150 = (wd, F2)) (D : doneL F2 = (td, ed)) (h : ¬ (ed ≠ 0 ∧ ed ≠ 113)) (hk : repKind wd = k) (h0 : k ≠ 0) (h5 : k ≠ 5) (h6 : k ≠ 6) : reportP r F = ((⟨(k : Int), r.f1, r.f2, x, r.f4, r.f5, r.f6⟩, 0, 0), F2) := by
  unfold reportP; rw [E1]; simp only; rw [E2]; simp only; rw [D]; simp only; rw [hk, if_neg h, if_neg h0, if_neg h5, if_neg h6]
end
theorem repKind_le (v : ByteArray) : repKind v ≤ 6 := by
  unfold repKind
  by_cases c1 : v = ⟨#[48]⟩
  · rw [if_pos c1]; decide
  rw [if_neg c1]
  by_cases c2 : v = ⟨#[52]⟩
  · rw [if_pos c2]; decide
  rw [if_neg c2]
  by_cases c3 : v = ⟨#[53]⟩
  · rw [if_pos c3]; decide
  rw [if_neg c3]
  by_cases c4 : v = ⟨#[56]⟩
  · rw [if_pos c4]; decide
  rw [if_neg c4]
  by_cases c5 : v = ⟨#[70]⟩
  · rw [if_pos c5]; decide
  rw [if_neg c5]
  by_cases c6 : v = ⟨#[72]⟩
  · rw [if_pos c6]; decide
  rw [if_neg c6]; decide
theorem repWord_kind (v : ByteArray) (i : Nat) (h1 : 1 ≤ i) (h3 : i ≤ 6) : ∃ r, post_replyWord.f (i : Int) = some r ∧ (r = v ↔ repKind v = i) := by
  rcases (show i = 1 ∨ i = 2 ∨ i = 3 ∨ i = 4 ∨ i = 5 ∨ i = 6 by omega) with rfl | rfl | rfl | rfl | rfl | rfl
  · refine ⟨⟨#[48]⟩, rfl, ?_⟩
    by_cases e : v = ⟨#[48]⟩
    · subst e; exact ⟨fun _ => rfl, fun _ => rfl⟩
    · refine ⟨fun g => absurd g.symm e, fun g => ?_⟩
      unfold repKind at g
      repeat' split at g <;> first | omega | contradiction | skip
  · refine ⟨⟨#[52]⟩, rfl, ?_⟩
    by_cases e : v = ⟨#[52]⟩
    · subst e; exact ⟨fun _ => rfl, fun _ => rfl⟩
    · refine ⟨fun g => absurd g.symm e, fun g => ?_⟩
      unfold repKind at g
      repeat' split at g <;> first | omega | contradiction | skip
  · refine ⟨⟨#[53]⟩, rfl, ?_⟩
    by_cases e : v = ⟨#[53]⟩
    · subst e; exact ⟨fun _ => rfl, fun _ => rfl⟩
    · refine ⟨fun g => absurd g.symm e, fun g => ?_⟩
      unfold repKind at g
      repeat' split at g <;> first | omega | contradiction | skip
  · refine ⟨⟨#[56]⟩, rfl, ?_⟩
    by_cases e : v = ⟨#[56]⟩
    · subst e; exact ⟨fun _ => rfl, fun _ => rfl⟩
    · refine ⟨fun g => absurd g.symm e, fun g => ?_⟩
      unfold repKind at g
      repeat' split at g <;> first | omega | contradiction | skip
  · refine ⟨⟨#[70]⟩, rfl, ?_⟩
    by_cases e : v = ⟨#[70]⟩
    · subst e; exact ⟨fun _ => rfl, fun _ => rfl⟩
    · refine ⟨fun g => absurd g.symm e, fun g => ?_⟩
      unfold repKind at g
      repeat' split at g <;> first | omega | contradiction | skip
  · refine ⟨⟨#[72]⟩, rfl, ?_⟩
    by_cases e : v = ⟨#[72]⟩
    · subst e; exact ⟨fun _ => rfl, fun _ => rfl⟩
    · refine ⟨fun g => absurd g.symm e, fun g => ?_⟩
      unfold repKind at g
      repeat' split at g <;> first | omega | contradiction | skip
theorem TwoBox.start2 {g : Nat} {p : PlS} {L : List S78} {F : FormS} {k : Nat} {W : World} (h : FormPre g p L F k W) (C Z : Array Value) (T : TypeId) :
    TwoBox W g p L (W.heap.size + 1) W.heap.size T F k Z C ((W.alloc (.cells C T)).alloc (.cells Z T)) := by
  have hs : (W.alloc (.cells C T)).heap.size = W.heap.size + 1 := World.size_alloc _ _
  have b1 : Below W.heap.size W ((W.alloc (.cells C T)).alloc (.cells Z T)) := ((Below.refl _ _).alloc (Nat.le_refl _) _).alloc (by rw [hs]; omega) _
  have n2 := blk_new (W.alloc (.cells C T)) (.cells Z T)
  rw [hs] at n2
  exact ⟨h.form.below b1, h.vals, n2, blk_alloc (blk_new _ _) _, Turned.of_below b1, by omega, Nat.le_refl _, by omega, h.gl, h.al, h.vl, h.ol⟩
set_option maxRecDepth 100000 in
set_option maxHeartbeats 8000000 in
theorem report_walk (g : Nat) (p : PlS) (L : List S78) (F : FormS) (k : Nat) (a : RepV) (W : World) (h : FormPre g p L F k W) (hk : k ≤ 900) (hor : F.order.length ≤ 1000) (hzl : ∀ y ∈ L, y.f1.size ≤ 512) :
    Calls Tryd.prog 81 #[.pointer (some ⟨g, 0, none⟩), .agg #[.int .i64 a.f0, .int .i64 a.f1, .string a.f2, .string a.f3, .int .i64 a.f4, .int .i64 a.f5, .string a.f6]] W (TakeIs g p L (repCells (reportP a F).1.1) (reportP a F).1.2.1 (reportP a F).1.2.2 (reportP a F).2 W) := by
  have B0 := Aside0.mk (TwoBox.start2 h #[.int .i64 a.f0, .int .i64 a.f1, .string a.f2, .string a.f3, .int .i64 a.f4, .int .i64 a.f5, .string a.f6] #[.int .i64 0, .int .i64 0, .string ⟨#[]⟩, .string ⟨#[]⟩, .int .i64 0, .int .i64 0, .string ⟨#[]⟩] 54)
  have HZ := Aside0.mk hzl
  obtain ⟨x, F1, E1⟩ : ∃ v F', askL takeName ⟨#[]⟩ F 17 = (v, F') := ⟨_, _, rfl⟩
  obtain ⟨wd, F2, E2⟩ : ∃ v F', askL takeName ⟨#[]⟩ F1 150 = (v, F') := ⟨_, _, rfl⟩
  obtain ⟨td, ed, D⟩ : ∃ t e, doneL F2 = (t, e) := ⟨_, _, rfl⟩
  have HO : Aside0 (F2.order.length ≤ 1000) := ⟨by
    have h1 := askL_order takeName ⟨#[]⟩ F 17
    rw [E1] at h1
    have h2 := askL_order takeName ⟨#[]⟩ F1 150
    rw [E2] at h2
    rw [show F2.order = F.order from h2.trans h1]
    exact hor⟩
  have HE1 := Aside0.mk E1
  have HE2 := Aside0.mk E2
  have HD := Aside0.mk D
  obtain ⟨kd, hkd⟩ : ∃ k, repKind wd = k := ⟨_, rfl⟩
  have hk6 : kd ≤ 6 := hkd ▸ repKind_le wd
  have HWd : Aside0 (∀ i : Nat, 1 ≤ i → i ≤ 6 → ∃ r, post_replyWord.f (i : Int) = some r ∧ (r = wd ↔ kd = i)) := ⟨fun i h1 h3 => by
    have := repWord_kind wd i h1 h3
    rwa [hkd] at this⟩
  have HKd := Aside0.mk hk6
  have HBad : Aside0 ((ed ≠ 0 ∧ ed ≠ 113) → reportP a F = ((⟨a.f0, a.f1, a.f2, x, a.f4, a.f5, a.f6⟩, td, ed), F2)) := ⟨fun h => reportP_bad E1 E2 D h⟩
  have HZero : Aside0 (¬ (ed ≠ 0 ∧ ed ≠ 113) → kd = 0 → reportP a F = ((⟨0, a.f1, a.f2, x, a.f4, a.f5, a.f6⟩, 150, 120), F2)) := ⟨fun h hk => reportP_zero E1 E2 D h (hkd.trans hk)⟩
  have H5 : Aside0 (∀ q z F3 F4, ¬ (ed ≠ 0 ∧ ed ≠ 113) → kd = 5 → askL (fun s => takeInt s 1 1099511627776) 0 F2 32 = (q, F3) → askL (fun s => takeInt s 1 1099511627776) 0 F3 31 = (z, F4) → reportP a F = ((⟨5, a.f1, a.f2, x, q, z, a.f6⟩, 0, 0), F4)) := ⟨fun q z F3 F4 h hk e3 e4 => reportP_5 E1 E2 D h (hkd.trans hk) e3 e4⟩
  have H6 : Aside0 (∀ n F3, ¬ (ed ≠ 0 ∧ ed ≠ 113) → kd = 6 → askL takeName ⟨#[]⟩ F2 19 = (n, F3) → reportP a F = ((⟨6, a.f1, a.f2, x, a.f4, a.f5, n⟩, 0, 0), F3)) := ⟨fun n F3 h hk e3 => reportP_6 E1 E2 D h (hkd.trans hk) e3⟩
  have HKk : Aside0 (¬ (ed ≠ 0 ∧ ed ≠ 113) → kd ≠ 0 → kd ≠ 5 → kd ≠ 6 → reportP a F = ((⟨(kd : Int), a.f1, a.f2, x, a.f4, a.f5, a.f6⟩, 0, 0), F2)) := ⟨fun h h0 h5 h6 => reportP_k E1 E2 D h hkd h0 h5 h6⟩
  clear hkd h hzl hor E1 E2 D
  generalize reportP a F = res at *
  by_cases cb : ed ≠ 0 ∧ ed ≠ 113
  · have HR := Aside0.mk (HBad.out cb)
    have t1 : (ed != 0) = true := by rw [bne_iff_ne]; exact cb.1
    have t2 : (ed != 113) = true := by rw [bne_iff_ne]; exact cb.2
    clear cb HBad HZero H5 H6 HKk
    go_enter Tryd.func81, Tryd.ntmps81
    go_wp2_with (first
      | (go_at_call 60; ((with_reducible refine (B0.out.name HE1.out (i64ok_of (by decide) (by decide)) (by omega) HZ.out).mono ?_)); rintro en w3 ⟨rfl, hb⟩; (try clear hc hz hrc hrz); have hbx : w3.heap[W.heap.size]? = some (.cells #[.int .i64 a.f0, .int .i64 a.f1, .string a.f2, .string a.f3, .int .i64 a.f4, .int .i64 a.f5, .string a.f6] 54 (0, 0)) := hb.box; have hc := fun i => blk_cell hbx i; have hz := fun i => blk_frozen hbx i; have hrx := hb.res; have hrc := fun i => blk_cell hrx i; have hrz := fun i => blk_frozen hrx i; have B1 := Aside0.mk (hb.set 3 (.string x)); clear hbx hrx hb)
      | (go_at_call 60; ((with_reducible refine (B1.out.name HE2.out (i64ok_of (by decide) (by decide)) (by omega) HZ.out).mono ?_)); rintro en w4 ⟨rfl, hb⟩; (try clear hc hz hrc hrz); have hbx : w4.heap[W.heap.size]? = some (.cells #[.int .i64 a.f0, .int .i64 a.f1, .string a.f2, .string x, .int .i64 a.f4, .int .i64 a.f5, .string a.f6] 54 (0, 0)) := hb.box; have hc := fun i => blk_cell hbx i; have hz := fun i => blk_frozen hbx i; have hrx := hb.res; have hrc := fun i => blk_cell hrx i; have hrz := fun i => blk_frozen hrx i; have B2 := Aside0.mk (hb); clear hbx hrx hb)
      | (go_at_call 62; ((with_reducible refine (B2.out.done HO.out HD.out).mono ?_)); rintro en w5 ⟨rfl, hb⟩; (try clear hc hz hrc hrz); have hbx : w5.heap[W.heap.size]? = some (.cells #[.int .i64 a.f0, .int .i64 a.f1, .string a.f2, .string x, .int .i64 a.f4, .int .i64 a.f5, .string a.f6] 54 (0, 0)) := hb.box; have hc := fun i => blk_cell hbx i; have hz := fun i => blk_frozen hbx i; have hrx := hb.res; have hrc := fun i => blk_cell hrx i; have hrz := fun i => blk_frozen hrx i; have B3 := Aside0.mk hb; clear hbx hrx hb))
    have hB := B3.out.fill7 (.int .i64 a.f0) (.int .i64 a.f1) (.string a.f2) (.string x) (.int .i64 a.f4) (.int .i64 a.f5) (.string a.f6)
    rw [HR.out]
    refine bodyPost_ret (results_ctt rfl _ _ (W.heap.size + 1) 54 #[.int .i64 a.f0, .int .i64 a.f1, .string a.f2, .string x, .int .i64 a.f4, .int .i64 a.f5, .string a.f6] (0, 0) _ rfl hB.res Tryd.underlying54 rfl (by kernel_rfl)) rfl ?_
    exact hB.take (by omega)
  · have HCb := Aside0.mk cb
    have hcase : ed = 0 ∨ ed = 113 := by omega
    clear HBad
    have HZ0 : Aside0 (kd = 0 → res = ((⟨0, a.f1, a.f2, x, a.f4, a.f5, a.f6⟩, 150, 120), F2)) := ⟨HZero.out cb⟩
    clear cb HZero
    rcases hcase with rfl | rfl
    all_goals
      go_enter Tryd.func81, Tryd.ntmps81
      go_wp2_with (first
        | (go_at_call 60; ((with_reducible refine (B0.out.name HE1.out (i64ok_of (by decide) (by decide)) (by omega) HZ.out).mono ?_)); rintro en w3 ⟨rfl, hb⟩; (try clear hc hz hrc hrz); have hbx : w3.heap[W.heap.size]? = some (.cells #[.int .i64 a.f0, .int .i64 a.f1, .string a.f2, .string a.f3, .int .i64 a.f4, .int .i64 a.f5, .string a.f6] 54 (0, 0)) := hb.box; have hc := fun i => blk_cell hbx i; have hz := fun i => blk_frozen hbx i; have hrx := hb.res; have hrc := fun i => blk_cell hrx i; have hrz := fun i => blk_frozen hrx i; have B1 := Aside0.mk (hb.set 3 (.string x)); clear hbx hrx hb)
        | (go_at_call 60; ((with_reducible refine (B1.out.name HE2.out (i64ok_of (by decide) (by decide)) (by omega) HZ.out).mono ?_)); rintro en w4 ⟨rfl, hb⟩; (try clear hc hz hrc hrz); have hbx : w4.heap[W.heap.size]? = some (.cells #[.int .i64 a.f0, .int .i64 a.f1, .string a.f2, .string x, .int .i64 a.f4, .int .i64 a.f5, .string a.f6] 54 (0, 0)) := hb.box; have hc := fun i => blk_cell hbx i; have hz := fun i => blk_frozen hbx i; have hrx := hb.res; have hrc := fun i => blk_cell hrx i; have hrz := fun i => blk_frozen hrx i; have B2 := Aside0.mk (hb); clear hbx hrx hb)
        | (go_at_call 62; ((with_reducible refine (B2.out.done HO.out HD.out).mono ?_)); rintro en w5 ⟨rfl, hb⟩; (try clear hc hz hrc hrz); have hbx : w5.heap[W.heap.size]? = some (.cells #[.int .i64 a.f0, .int .i64 a.f1, .string a.f2, .string x, .int .i64 a.f4, .int .i64 a.f5, .string a.f6] 54 (0, 0)) := hb.box; have hc := fun i => blk_cell hbx i; have hz := fun i => blk_frozen hbx i; have hrx := hb.res; have hrc := fun i => blk_cell hrx i; have hrz := fun i => blk_frozen hrx i; have B3 := Aside0.mk hb; clear hbx hrx hb))
      go_loopw [10] (fun v10 wr => ∃ i : Nat, v10 = .int .i64 (i : Int) ∧ 1 ≤ i ∧ i ≤ 7 ∧ Aside0 (TwoBox W g p L (W.heap.size + 1) W.heap.size 54 F2 (k + 1 + 1) #[.int .i64 0, .int .i64 0, .string ⟨#[]⟩, .string ⟨#[]⟩, .int .i64 0, .int .i64 0, .string ⟨#[]⟩] #[.int .i64 (if kd < i then (kd : Int) else 0), .int .i64 a.f1, .string a.f2, .string x, .int .i64 a.f4, .int .i64 a.f5, .string a.f6] wr)) (fun v10 _ => 7 - (intOf v10).toNat)
      case atStart => exact ⟨1, rfl, Nat.le_refl _, by omega, ⟨by rw [show (if kd < 1 then (kd : Int) else 0) = 0 by split <;> omega]; exact B3.out.set 0 (.int .i64 0)⟩⟩
      case round =>
        clear B3
        try clear hc hz hrc hrz
        obtain ⟨i, rfl, hi1, hi5, B⟩ := hrel
        by_cases hlt : i ≤ 6
        · obtain ⟨r, hr, hiff⟩ := HWd.out i hi1 hlt
          have k1 : decide ((i : Int) ≤ 6) = true := by rw [decide_eq_true_eq]; omega
          have HWc : Aside0 (∀ W, Calls Tryd.prog 85 #[.int .i64 (i : Int)] W fun e w' => e = .returned (.string r) ∧ Drawn0 W w') := ⟨fun W => post_replyWord.calls _ r W hr⟩
          by_cases ce : kd = i
          · obtain rfl : r = wd := hiff.2 ce
            have HN : Aside0 ((if kd < i + 1 then (kd : Int) else 0) = (i : Int)) := ⟨by rw [if_pos (by omega), ce]⟩
            clear hr hiff ce
            go_wp2_with (go_at_call 85; refine (HWc.out _).mono ?_; rintro en w3 ⟨rfl, hd⟩; have B2 := Aside0.mk (B.out.below hd.below); clear hd; have c0 : w3.cell? ⟨W.heap.size, 0, none⟩ = some (.int .i64 (if kd < i then (kd : Int) else 0)) := blk_cell B2.out.box 0; have z0 := blk_frozen B2.out.box 0)
            refine ⟨⟨i + 1, by rw [show ((i + 1 : Nat) : Int) = (i : Int) + 1 by omega], by omega, by omega, ⟨by rw [HN.out]; exact B2.out.set 0 (.int .i64 (i : Int))⟩⟩, ?_⟩
            show 7 - ((i : Int) + 1).toNat < 7 - ((i : Int)).toNat
            omega
          · have hne : ¬ r = wd := fun g => ce (hiff.1 g)
            have n1 : (r.toList == wd.toList) = false := by
              rw [ByteArray.toList_eq, ByteArray.toList_eq, beq_eq_false_iff_ne]
              exact fun e => hne (ba_ext e)
            have HN : Aside0 ((if kd < i + 1 then (kd : Int) else 0) = (if kd < i then (kd : Int) else 0)) := ⟨by
              by_cases q : kd < i
              · rw [if_pos q, if_pos (by omega)]
              · rw [if_neg q, if_neg (by omega)]⟩
            clear hr hiff ce hne
            go_wp2_with (go_at_call 85; refine (HWc.out _).mono ?_; rintro en w3 ⟨rfl, hd⟩; have B2 := Aside0.mk (B.out.below hd.below); clear hd)
            refine ⟨⟨i + 1, by rw [show ((i + 1 : Nat) : Int) = (i : Int) + 1 by omega], by omega, by omega, ⟨by rw [HN.out]; exact B2.out⟩⟩, ?_⟩
            show 7 - ((i : Int) + 1).toNat < 7 - ((i : Int)).toNat
            omega
        · have k1 : decide ((i : Int) ≤ 6) = false := by rw [decide_eq_false_iff_not]; omega
          have hi : i = 7 := by omega
          subst hi
          have B4 : Aside0 (TwoBox W g p L (W.heap.size + 1) W.heap.size 54 F2 (k + 1 + 1) #[.int .i64 0, .int .i64 0, .string ⟨#[]⟩, .string ⟨#[]⟩, .int .i64 0, .int .i64 0, .string ⟨#[]⟩] #[.int .i64 (kd : Int), .int .i64 a.f1, .string a.f2, .string x, .int .i64 a.f4, .int .i64 a.f5, .string a.f6] wr) := ⟨by have := B.out; rwa [if_pos (by have := HKd.out; omega)] at this⟩
          clear B
          rcases (show kd = 0 ∨ kd = 1 ∨ kd = 2 ∨ kd = 3 ∨ kd = 4 ∨ kd = 5 ∨ kd = 6 by have := HKd.out; omega) with rfl | rfl | rfl | rfl | rfl | rfl | rfl
          · have hbx : wr.heap[W.heap.size]? = some (.cells #[.int .i64 0, .int .i64 a.f1, .string a.f2, .string x, .int .i64 a.f4, .int .i64 a.f5, .string a.f6] 54 (0, 0)) := B4.out.box
            have hc := fun i => blk_cell hbx i
            have hz := fun i => blk_frozen hbx i
            have hrx := B4.out.res
            have hrc := fun i => blk_cell hrx i
            have hrz := fun i => blk_frozen hrx i
            have B5 : Aside0 (TwoBox W g p L (W.heap.size + 1) W.heap.size 54 F2 (k + 1 + 1) #[.int .i64 0, .int .i64 0, .string ⟨#[]⟩, .string ⟨#[]⟩, .int .i64 0, .int .i64 0, .string ⟨#[]⟩] #[.int .i64 0, .int .i64 a.f1, .string a.f2, .string x, .int .i64 a.f4, .int .i64 a.f5, .string a.f6] wr) := ⟨B4.out⟩
            have HR := Aside0.mk (HZ0.out rfl)
            clear hbx hrx B4
            go_wp2
            have hB := B5.out.fill7 (.int .i64 0) (.int .i64 a.f1) (.string a.f2) (.string x) (.int .i64 a.f4) (.int .i64 a.f5) (.string a.f6)
            rw [HR.out]
            refine bodyPost_ret (results_ctt rfl _ _ (W.heap.size + 1) 54 #[.int .i64 0, .int .i64 a.f1, .string a.f2, .string x, .int .i64 a.f4, .int .i64 a.f5, .string a.f6] (0, 0) _ rfl hB.res Tryd.underlying54 rfl (by kernel_rfl)) rfl ?_
            exact hB.take (by omega)
          · have hbx : wr.heap[W.heap.size]? = some (.cells #[.int .i64 1, .int .i64 a.f1, .string a.f2, .string x, .int .i64 a.f4, .int .i64 a.f5, .string a.f6] 54 (0, 0)) := B4.out.box
            have hc := fun i => blk_cell hbx i
            have hz := fun i => blk_frozen hbx i
            have hrx := B4.out.res
            have hrc := fun i => blk_cell hrx i
            have hrz := fun i => blk_frozen hrx i
            have B5 : Aside0 (TwoBox W g p L (W.heap.size + 1) W.heap.size 54 F2 (k + 1 + 1) #[.int .i64 0, .int .i64 0, .string ⟨#[]⟩, .string ⟨#[]⟩, .int .i64 0, .int .i64 0, .string ⟨#[]⟩] #[.int .i64 1, .int .i64 a.f1, .string a.f2, .string x, .int .i64 a.f4, .int .i64 a.f5, .string a.f6] wr) := ⟨B4.out⟩
            have HR := Aside0.mk (HKk.out HCb.out (by decide) (by decide) (by decide))
            clear hbx hrx B4
            go_wp2
            have hB := B5.out.fill7 (.int .i64 1) (.int .i64 a.f1) (.string a.f2) (.string x) (.int .i64 a.f4) (.int .i64 a.f5) (.string a.f6)
            rw [HR.out]
            refine bodyPost_ret (results_ctt rfl _ _ (W.heap.size + 1) 54 #[.int .i64 1, .int .i64 a.f1, .string a.f2, .string x, .int .i64 a.f4, .int .i64 a.f5, .string a.f6] (0, 0) _ rfl hB.res Tryd.underlying54 rfl (by kernel_rfl)) rfl ?_
            exact hB.take (by omega)
          · have hbx : wr.heap[W.heap.size]? = some (.cells #[.int .i64 2, .int .i64 a.f1, .string a.f2, .string x, .int .i64 a.f4, .int .i64 a.f5, .string a.f6] 54 (0, 0)) := B4.out.box
            have hc := fun i => blk_cell hbx i
            have hz := fun i => blk_frozen hbx i
            have hrx := B4.out.res
            have hrc := fun i => blk_cell hrx i
            have hrz := fun i => blk_frozen hrx i
            have B5 : Aside0 (TwoBox W g p L (W.heap.size + 1) W.heap.size 54 F2 (k + 1 + 1) #[.int .i64 0, .int .i64 0, .string ⟨#[]⟩, .string ⟨#[]⟩, .int .i64 0, .int .i64 0, .string ⟨#[]⟩] #[.int .i64 2, .int .i64 a.f1, .string a.f2, .string x, .int .i64 a.f4, .int .i64 a.f5, .string a.f6] wr) := ⟨B4.out⟩
            have HR := Aside0.mk (HKk.out HCb.out (by decide) (by decide) (by decide))
            clear hbx hrx B4
            go_wp2
            have hB := B5.out.fill7 (.int .i64 2) (.int .i64 a.f1) (.string a.f2) (.string x) (.int .i64 a.f4) (.int .i64 a.f5) (.string a.f6)
            rw [HR.out]
            refine bodyPost_ret (results_ctt rfl _ _ (W.heap.size + 1) 54 #[.int .i64 2, .int .i64 a.f1, .string a.f2, .string x, .int .i64 a.f4, .int .i64 a.f5, .string a.f6] (0, 0) _ rfl hB.res Tryd.underlying54 rfl (by kernel_rfl)) rfl ?_
            exact hB.take (by omega)
          · have hbx : wr.heap[W.heap.size]? = some (.cells #[.int .i64 3, .int .i64 a.f1, .string a.f2, .string x, .int .i64 a.f4, .int .i64 a.f5, .string a.f6] 54 (0, 0)) := B4.out.box
            have hc := fun i => blk_cell hbx i
            have hz := fun i => blk_frozen hbx i
            have hrx := B4.out.res
            have hrc := fun i => blk_cell hrx i
            have hrz := fun i => blk_frozen hrx i
            have B5 : Aside0 (TwoBox W g p L (W.heap.size + 1) W.heap.size 54 F2 (k + 1 + 1) #[.int .i64 0, .int .i64 0, .string ⟨#[]⟩, .string ⟨#[]⟩, .int .i64 0, .int .i64 0, .string ⟨#[]⟩] #[.int .i64 3, .int .i64 a.f1, .string a.f2, .string x, .int .i64 a.f4, .int .i64 a.f5, .string a.f6] wr) := ⟨B4.out⟩
            have HR := Aside0.mk (HKk.out HCb.out (by decide) (by decide) (by decide))
            clear hbx hrx B4
            go_wp2
            have hB := B5.out.fill7 (.int .i64 3) (.int .i64 a.f1) (.string a.f2) (.string x) (.int .i64 a.f4) (.int .i64 a.f5) (.string a.f6)
            rw [HR.out]
            refine bodyPost_ret (results_ctt rfl _ _ (W.heap.size + 1) 54 #[.int .i64 3, .int .i64 a.f1, .string a.f2, .string x, .int .i64 a.f4, .int .i64 a.f5, .string a.f6] (0, 0) _ rfl hB.res Tryd.underlying54 rfl (by kernel_rfl)) rfl ?_
            exact hB.take (by omega)
          · have hbx : wr.heap[W.heap.size]? = some (.cells #[.int .i64 4, .int .i64 a.f1, .string a.f2, .string x, .int .i64 a.f4, .int .i64 a.f5, .string a.f6] 54 (0, 0)) := B4.out.box
            have hc := fun i => blk_cell hbx i
            have hz := fun i => blk_frozen hbx i
            have hrx := B4.out.res
            have hrc := fun i => blk_cell hrx i
            have hrz := fun i => blk_frozen hrx i
            have B5 : Aside0 (TwoBox W g p L (W.heap.size + 1) W.heap.size 54 F2 (k + 1 + 1) #[.int .i64 0, .int .i64 0, .string ⟨#[]⟩, .string ⟨#[]⟩, .int .i64 0, .int .i64 0, .string ⟨#[]⟩] #[.int .i64 4, .int .i64 a.f1, .string a.f2, .string x, .int .i64 a.f4, .int .i64 a.f5, .string a.f6] wr) := ⟨B4.out⟩
            have HR := Aside0.mk (HKk.out HCb.out (by decide) (by decide) (by decide))
            clear hbx hrx B4
            go_wp2
            have hB := B5.out.fill7 (.int .i64 4) (.int .i64 a.f1) (.string a.f2) (.string x) (.int .i64 a.f4) (.int .i64 a.f5) (.string a.f6)
            rw [HR.out]
            refine bodyPost_ret (results_ctt rfl _ _ (W.heap.size + 1) 54 #[.int .i64 4, .int .i64 a.f1, .string a.f2, .string x, .int .i64 a.f4, .int .i64 a.f5, .string a.f6] (0, 0) _ rfl hB.res Tryd.underlying54 rfl (by kernel_rfl)) rfl ?_
            exact hB.take (by omega)
          · have hbx : wr.heap[W.heap.size]? = some (.cells #[.int .i64 5, .int .i64 a.f1, .string a.f2, .string x, .int .i64 a.f4, .int .i64 a.f5, .string a.f6] 54 (0, 0)) := B4.out.box
            have hc := fun i => blk_cell hbx i
            have hz := fun i => blk_frozen hbx i
            have hrx := B4.out.res
            have hrc := fun i => blk_cell hrx i
            have hrz := fun i => blk_frozen hrx i
            have B5 : Aside0 (TwoBox W g p L (W.heap.size + 1) W.heap.size 54 F2 (k + 1 + 1) #[.int .i64 0, .int .i64 0, .string ⟨#[]⟩, .string ⟨#[]⟩, .int .i64 0, .int .i64 0, .string ⟨#[]⟩] #[.int .i64 5, .int .i64 a.f1, .string a.f2, .string x, .int .i64 a.f4, .int .i64 a.f5, .string a.f6] wr) := ⟨B4.out⟩
            obtain ⟨q, F3, E3⟩ : ∃ v F', askL (fun s => takeInt s 1 1099511627776) 0 F2 32 = (v, F') := ⟨_, _, rfl⟩
            obtain ⟨z, F4, E4⟩ : ∃ v F', askL (fun s => takeInt s 1 1099511627776) 0 F3 31 = (v, F') := ⟨_, _, rfl⟩
            have HR := Aside0.mk (H5.out q z F3 F4 HCb.out rfl E3 E4)
            have HE3 := Aside0.mk E3
            have HE4 := Aside0.mk E4
            clear hbx hrx B4 E3 E4
            go_wp2_with (first
              | (go_at_call 61; ((with_reducible refine (B5.out.int HE3.out (i64ok_of (by decide) (by decide)) (by omega) HZ.out).mono ?_)); rintro en w6 ⟨rfl, hb⟩; (try clear hc hz hrc hrz); have hbx : w6.heap[W.heap.size]? = some (.cells #[.int .i64 5, .int .i64 a.f1, .string a.f2, .string x, .int .i64 a.f4, .int .i64 a.f5, .string a.f6] 54 (0, 0)) := hb.box; have hc := fun i => blk_cell hbx i; have hz := fun i => blk_frozen hbx i; have hrx := hb.res; have hrc := fun i => blk_cell hrx i; have hrz := fun i => blk_frozen hrx i; have B6 := Aside0.mk (hb.set 4 (.int .i64 q)); clear hbx hrx hb)
              | (go_at_call 61; ((with_reducible refine (B6.out.int HE4.out (i64ok_of (by decide) (by decide)) (by omega) HZ.out).mono ?_)); rintro en w7 ⟨rfl, hb⟩; (try clear hc hz hrc hrz); have hbx : w7.heap[W.heap.size]? = some (.cells #[.int .i64 5, .int .i64 a.f1, .string a.f2, .string x, .int .i64 q, .int .i64 a.f5, .string a.f6] 54 (0, 0)) := hb.box; have hc := fun i => blk_cell hbx i; have hz := fun i => blk_frozen hbx i; have hrx := hb.res; have hrc := fun i => blk_cell hrx i; have hrz := fun i => blk_frozen hrx i; have B7 := Aside0.mk (hb.set 5 (.int .i64 z)); clear hbx hrx hb))
            have hB := B7.out.fill7 (.int .i64 5) (.int .i64 a.f1) (.string a.f2) (.string x) (.int .i64 q) (.int .i64 z) (.string a.f6)
            rw [HR.out]
            refine bodyPost_ret (results_ctt rfl _ _ (W.heap.size + 1) 54 #[.int .i64 5, .int .i64 a.f1, .string a.f2, .string x, .int .i64 q, .int .i64 z, .string a.f6] (0, 0) _ rfl hB.res Tryd.underlying54 rfl (by kernel_rfl)) rfl ?_
            exact hB.take (by omega)
          · have hbx : wr.heap[W.heap.size]? = some (.cells #[.int .i64 6, .int .i64 a.f1, .string a.f2, .string x, .int .i64 a.f4, .int .i64 a.f5, .string a.f6] 54 (0, 0)) := B4.out.box
            have hc := fun i => blk_cell hbx i
            have hz := fun i => blk_frozen hbx i
            have hrx := B4.out.res
            have hrc := fun i => blk_cell hrx i
            have hrz := fun i => blk_frozen hrx i
            have B5 : Aside0 (TwoBox W g p L (W.heap.size + 1) W.heap.size 54 F2 (k + 1 + 1) #[.int .i64 0, .int .i64 0, .string ⟨#[]⟩, .string ⟨#[]⟩, .int .i64 0, .int .i64 0, .string ⟨#[]⟩] #[.int .i64 6, .int .i64 a.f1, .string a.f2, .string x, .int .i64 a.f4, .int .i64 a.f5, .string a.f6] wr) := ⟨B4.out⟩
            obtain ⟨n, F3, E3⟩ : ∃ v F', askL takeName ⟨#[]⟩ F2 19 = (v, F') := ⟨_, _, rfl⟩
            have HR := Aside0.mk (H6.out n F3 HCb.out rfl E3)
            have HE3 := Aside0.mk E3
            clear hbx hrx B4 E3
            go_wp2_with (go_at_call 60; ((with_reducible refine (B5.out.name HE3.out (i64ok_of (by decide) (by decide)) (by omega) HZ.out).mono ?_)); rintro en w6 ⟨rfl, hb⟩; (try clear hc hz hrc hrz); have hbx : w6.heap[W.heap.size]? = some (.cells #[.int .i64 6, .int .i64 a.f1, .string a.f2, .string x, .int .i64 a.f4, .int .i64 a.f5, .string a.f6] 54 (0, 0)) := hb.box; have hc := fun i => blk_cell hbx i; have hz := fun i => blk_frozen hbx i; have hrx := hb.res; have hrc := fun i => blk_cell hrx i; have hrz := fun i => blk_frozen hrx i; have B6 := Aside0.mk (hb.set 6 (.string n)); clear hbx hrx hb)
            have hB := B6.out.fill7 (.int .i64 6) (.int .i64 a.f1) (.string a.f2) (.string x) (.int .i64 a.f4) (.int .i64 a.f5) (.string n)
            rw [HR.out]
            refine bodyPost_ret (results_ctt rfl _ _ (W.heap.size + 1) 54 #[.int .i64 6, .int .i64 a.f1, .string a.f2, .string x, .int .i64 a.f4, .int .i64 a.f5, .string n] (0, 0) _ rfl hB.res Tryd.underlying54 rfl (by kernel_rfl)) rfl ?_
            exact hB.take (by omega)
structure ResBox (W0 : World) (g : Nat) (p : PlS) (L : List S78) (r : Nat) (T : TypeId) (F : FormS) (k : Nat) (rs : Array Value) (W : World) : Prop where
  form : FormIs g p F k W
  vals : F.vals = valsOf L
  res : W.heap[r]? = some (.cells rs T (0, 0))
  tu : Turned (FormB g p) W0 W
  hr : W0.heap.size ≤ r
  gl : g < W0.heap.size
  al : p.a < W0.heap.size
  vl : p.v < W0.heap.size
  ol : ∀ a, p.A = some a → a.block < W0.heap.size
theorem ResBox.start {g : Nat} {p : PlS} {L : List S78} {F : FormS} {k : Nat} {W : World} (h : FormPre g p L F k W) (Z : Array Value) (T : TypeId) : ResBox W g p L W.heap.size T F k Z (W.alloc (.cells Z T)) := by
  have b1 : Below W.heap.size W (W.alloc (.cells Z T)) := (Below.refl _ _).alloc (Nat.le_refl _) _
  exact ⟨h.form.below b1, h.vals, blk_new _ _, Turned.of_below b1, Nat.le_refl _, h.gl, h.al, h.vl, h.ol⟩
section
variable {W0 : World} {g : Nat} {p : PlS} {L : List S78} {r : Nat} {T : TypeId} {F F' : FormS} {k k' : Nat} {rs cs : Array Value} {W W' : World}
theorem ResBox.call (h : ResBox W0 g p L r T F k rs W) (hf : FormIs g p F' k' W') (hv : F'.vals = valsOf L) (ht : Turned (FormB g p) W W') : ResBox W0 g p L r T F' k' rs W' := by
  have e1 := h.hr; have e3 := h.gl; have e4 := h.al
  exact ⟨hf, hv, (ht.block r (blk_lt h.res) (fun e => by rcases e with e | e <;> omega)).trans h.res, h.tu.trans ht, h.hr, h.gl, h.al, h.vl, h.ol⟩
theorem ResBox.below (h : ResBox W0 g p L r T F k rs W) (hb : Below W.heap.size W W') : ResBox W0 g p L r T F k rs W' := h.call (h.form.below hb) h.vals (Turned.of_below hb)
theorem ResBox.setR (h : ResBox W0 g p L r T F k rs W) (j : Nat) (v : Value) : ResBox W0 g p L r T F k (rs.setIfInBounds j v) (W.setCell ⟨r, j, none⟩ v) := by
  have e1 := h.hr; have e3 := h.gl; have e4 := h.al; have e5 := h.vl
  exact ⟨h.form.turned (S := fun x => x = r) (Turned.setCell (S := fun x => x = r) (Turned.refl _ _) (p := ⟨r, j, none⟩) rfl _) (by show ¬ g = r; omega) (by show ¬ p.a = r; omega) (by show ¬ p.v = r; omega) (fun a ha => by have := h.ol a ha; show ¬ a.block = r; omega), h.vals,
    blk_set h.res j v, h.tu.far e1 _, h.hr, h.gl, h.al, h.vl, h.ol⟩
theorem ResBox.pre (h : ResBox W0 g p L r T F k rs W) : FormPre g p L F k W := by
  have hs := h.tu.size
  exact ⟨h.form, h.vals, Nat.lt_of_lt_of_le h.gl hs, Nat.lt_of_lt_of_le h.al hs, Nat.lt_of_lt_of_le h.vl hs, fun a ha => Nat.lt_of_lt_of_le (h.ol a ha) hs⟩
theorem ResBox.name (h : ResBox W0 g p L r T F k rs W) {t : Int} {v : ByteArray} (E : askL takeName ⟨#[]⟩ F t = (v, F')) (ht : i64ok t) (hk : k ≤ 1000) (hz : ∀ y ∈ L, y.f1.size ≤ 512) :
    Calls Tryd.prog 60 #[.pointer (some ⟨g, 0, none⟩), .int .i64 t] W fun e w' => e = .returned (.string v) ∧ ResBox W0 g p L r T F' (k + 1) rs w' := by
  have h1 := form_name g p F k W h.form (by omega) (fun x s hx => by
    rw [h.vals] at hx
    obtain ⟨y, hy, _, rfl⟩ := valsOf_mem _ _ _ hx
    have := hz y hy
    omega) t ht
  have hv := askL_vals takeName ⟨#[]⟩ F t
  rw [E] at h1 hv
  exact h1.mono fun e w' hh => ⟨hh.1, h.call hh.2.1 (hv.trans h.vals) hh.2.2⟩
theorem ResBox.int (h : ResBox W0 g p L r T F k rs W) {t low high : Int} {v : Int} (E : askL (fun s => takeInt s low high) 0 F t = (v, F')) (ht : i64ok t) (hk : k ≤ 1000) (hz : ∀ y ∈ L, y.f1.size ≤ 512) :
    Calls Tryd.prog 61 #[.pointer (some ⟨g, 0, none⟩), .int .i64 t, .int .i64 low, .int .i64 high] W fun e w' => e = .returned (.int .i64 v) ∧ ResBox W0 g p L r T F' (k + 1) rs w' := by
  have h1 := form_int g p F k W h.form (by omega) (fun x s hx => by
    rw [h.vals] at hx
    obtain ⟨y, hy, _, rfl⟩ := valsOf_mem _ _ _ hx
    have := hz y hy
    omega) t low high ht h.form.alt
  have hv := askL_vals (fun s => takeInt s low high) 0 F t
  rw [E] at h1 hv
  exact h1.mono fun e w' hh => ⟨hh.1, h.call hh.2.1 (hv.trans h.vals) hh.2.2⟩
theorem ResBox.kind (h : ResBox W0 g p L r T F k rs W) (hk : k ≤ 1000) (he : F.e = 0) {s : ByteArray} (hs : (F.vals 35).getD ⟨#[]⟩ = s) :
    Calls Tryd.prog 59 #[.pointer (some ⟨g, 0, none⟩)] W fun e w' => e = .returned (.string s) ∧ ResBox W0 g p L r T (F.mark 35) (k + 1) rs w' := by
  have h1 := form_kind g p F k W h.form (by omega)
  rw [hs] at h1
  exact h1.mono fun e w' hh => ⟨hh.1, h.call (F' := F.mark 35) (hh.2.2 he).1 h.vals (hh.2.2 he).2⟩
theorem ResBox.take {t x : Int} (h : ResBox W0 g p L r T F k rs W) (hk : k ≤ 1000) {cells : Array Value} : TakeIs g p L cells t x F W0 (.returned (.tuple #[.agg cells, .int .i64 t, .int .i64 x])) W := ⟨rfl, ⟨k, hk, h.form⟩, h.vals, h.tu⟩
theorem ResBox.fill7 {a0 a1 a2 a3 a4 a5 a6 : Value} (h : ResBox W0 g p L r T F k #[a0, a1, a2, a3, a4, a5, a6] W) (v0 v1 v2 v3 v4 v5 v6 : Value) :
    ResBox W0 g p L r T F k #[v0, v1, v2, v3, v4, v5, v6] (((((((W.setCell ⟨r, 0, none⟩ v0).setCell ⟨r, 1, none⟩ v1).setCell ⟨r, 2, none⟩ v2).setCell ⟨r, 3, none⟩ v3).setCell ⟨r, 4, none⟩ v4).setCell ⟨r, 5, none⟩ v5).setCell ⟨r, 6, none⟩ v6) := by
  have h2 := ((((((h.setR 0 v0).setR 1 v1).setR 2 v2).setR 3 v3).setR 4 v4).setR 5 v5).setR 6 v6
  simp only [List.setIfInBounds_toArray, List.set_cons_zero, List.set_cons_succ] at h2
  exact h2
end
theorem reportP_order (a : RepV) (F : FormS) : (reportP a F).2.order = F.order := by
  unfold reportP
  repeat' split
  all_goals simp only [askL_order]
def takeP (v : ByteArray) (F : FormS) : (RepV × Int × Int) × FormS :=
  if v = ⟨#[56]⟩ then reportP ⟨7, (askL (fun s => takeInt s 1 1099511627776) 0 (F.mark 35) 34).1, (askL takeName ⟨#[]⟩ (askL (fun s => takeInt s 1 1099511627776) 0 (F.mark 35) 34).2 11).1, ⟨#[]⟩, 0, 0, ⟨#[]⟩⟩ (askL takeName ⟨#[]⟩ (askL (fun s => takeInt s 1 1099511627776) 0 (F.mark 35) 34).2 11).2
  else if v = ⟨#[57]⟩ then ((⟨7, (askL (fun s => takeInt s 1 1099511627776) 0 (F.mark 35) 34).1, (askL takeName ⟨#[]⟩ (askL (fun s => takeInt s 1 1099511627776) 0 (F.mark 35) 34).2 11).1, ⟨#[]⟩, 0, 0, ⟨#[]⟩⟩, 0, 0), (askL takeName ⟨#[]⟩ (askL (fun s => takeInt s 1 1099511627776) 0 (F.mark 35) 34).2 11).2)
  else ((zRep, 35, 120), F.mark 35)
theorem takeP_order (v : ByteArray) (F : FormS) : (takeP v F).2.order = F.order := by
  unfold takeP
  split
  · rw [reportP_order, askL_order, askL_order]; rfl
  · split
    · simp only [askL_order]; rfl
    · rfl
theorem takeP_8 {F F1 F2 F' : FormS} {q : Int} {i : ByteArray} {o : RepV} {t x : Int} (E1 : askL (fun s => takeInt s 1 1099511627776) 0 (F.mark 35) 34 = (q, F1)) (E2 : askL takeName ⟨#[]⟩ F1 11 = (i, F2)) (h : reportP ⟨7, q, i, ⟨#[]⟩, 0, 0, ⟨#[]⟩⟩ F2 = ((o, t, x), F')) : takeP ⟨#[56]⟩ F = ((o, t, x), F') := by
  unfold takeP; rw [if_pos rfl, E1]; simp only; rw [E2]; exact h
theorem takeP_9 {F F1 F2 : FormS} {q : Int} {i : ByteArray} (E1 : askL (fun s => takeInt s 1 1099511627776) 0 (F.mark 35) 34 = (q, F1)) (E2 : askL takeName ⟨#[]⟩ F1 11 = (i, F2)) : takeP ⟨#[57]⟩ F = ((⟨7, q, i, ⟨#[]⟩, 0, 0, ⟨#[]⟩⟩, 0, 0), F2) := by
  unfold takeP; rw [if_neg (by decide), if_pos rfl, E1]; simp only; rw [E2]
set_option maxRecDepth 100000 in
set_option maxHeartbeats 8000000 in
theorem take_reply_walk (g : Nat) (p : PlS) (L : List S78) (F : FormS) (v : ByteArray) (W : World) (h : FormPre g p L F 0 W) (he : F.e = 0) (hv : (F.vals 35).getD ⟨#[]⟩ = v) (hzl : ∀ y ∈ L, y.f1.size ≤ 512) (hor : F.order.length ≤ 1000) :
    Calls Tryd.prog 80 #[.pointer (some ⟨g, 0, none⟩)] W (TakeIs g p L (repCells (takeP v F).1.1) (takeP v F).1.2.1 (takeP v F).1.2.2 (takeP v F).2 W) := by
  have B0 := Aside0.mk (ResBox.start h #[.int .i64 0, .int .i64 0, .string ⟨#[]⟩, .string ⟨#[]⟩, .int .i64 0, .int .i64 0, .string ⟨#[]⟩] 54)
  have HZ := Aside0.mk hzl
  have HE0 := Aside0.mk he
  obtain ⟨q, F1, E1⟩ : ∃ v F', askL (fun s => takeInt s 1 1099511627776) 0 (F.mark 35) 34 = (v, F') := ⟨_, _, rfl⟩
  obtain ⟨i, F2, E2⟩ : ∃ v F', askL takeName ⟨#[]⟩ F1 11 = (v, F') := ⟨_, _, rfl⟩
  have hor2 : F2.order.length ≤ 1000 := by
    have h1 := askL_order (fun s => takeInt s 1 1099511627776) 0 (F.mark 35) 34
    rw [E1] at h1
    have h2 := askL_order takeName ⟨#[]⟩ F1 11
    rw [E2] at h2
    rw [show F2.order = F.order from h2.trans h1]
    exact hor
  have HE1 := Aside0.mk E1
  have HE2 := Aside0.mk E2
  by_cases c8 : v = ⟨#[56]⟩
  · subst c8
    obtain ⟨o, t, x, F', hrp⟩ : ∃ o t x F', reportP ⟨7, q, i, ⟨#[]⟩, 0, 0, ⟨#[]⟩⟩ F2 = ((o, t, x), F') := ⟨_, _, _, _, rfl⟩
    have HR := Aside0.mk (takeP_8 E1 E2 hrp)
    have HV := Aside0.mk hv
    have HRp : Aside0 (∀ X, FormPre g p L F2 (0 + 1 + 1 + 1) X → Calls Tryd.prog 81 #[.pointer (some ⟨g, 0, none⟩), .agg #[.int .i64 7, .int .i64 q, .string i, .string ⟨#[]⟩, .int .i64 0, .int .i64 0, .string ⟨#[]⟩]] X fun e w' => e = .returned (.tuple #[.agg #[.int .i64 o.f0, .int .i64 o.f1, .string o.f2, .string o.f3, .int .i64 o.f4, .int .i64 o.f5, .string o.f6], .int .i64 t, .int .i64 x]) ∧ (∃ k, k ≤ 1000 ∧ FormIs g p F' k w') ∧ F'.vals = valsOf L ∧ Turned (FormB g p) X w') := ⟨fun X hX => by
      have h1 := report_walk g p L F2 (0 + 1 + 1 + 1) ⟨7, q, i, ⟨#[]⟩, 0, 0, ⟨#[]⟩⟩ X hX (by decide) hor2 hzl
      rw [hrp] at h1
      exact h1⟩
    clear h he hv hzl hor hor2 E1 E2 hrp
    generalize takeP ⟨#[56]⟩ F = res at *
    go_enter Tryd.func80, Tryd.ntmps80
    go_wp2_with (first
      | (go_at_call 59; ((with_reducible refine (B0.out.kind (by decide) HE0.out HV.out).mono ?_)); rintro en w2 ⟨rfl, hb⟩; have hrx : w2.heap[W.heap.size]? = some (.cells #[.int .i64 0, .int .i64 0, .string ⟨#[]⟩, .string ⟨#[]⟩, .int .i64 0, .int .i64 0, .string ⟨#[]⟩] 54 (0, 0)) := hb.res; have hrc := fun i => blk_cell hrx i; have hrz := fun i => blk_frozen hrx i; have B1 := Aside0.mk hb; clear hrx hb)
      | (go_at_call 61; ((with_reducible refine (B1.out.int HE1.out (i64ok_of (by decide) (by decide)) (by decide) HZ.out).mono ?_)); rintro en w3 ⟨rfl, hb⟩; (try clear hrc hrz); have B2 := Aside0.mk hb; clear hb)
      | (go_at_call 60; ((with_reducible refine (B2.out.name HE2.out (i64ok_of (by decide) (by decide)) (by decide) HZ.out).mono ?_)); rintro en w4 ⟨rfl, hb⟩; have hal : Below w4.heap.size w4 (w4.alloc (.cells #[.int .i64 7, .int .i64 q, .string i, .string ⟨#[]⟩, .int .i64 0, .int .i64 0, .string ⟨#[]⟩] 54)) := (Below.refl _ _).alloc (Nat.le_refl _) _; have B3 := Aside0.mk (hb.below hal); have BX := Aside0.mk (blk_new w4 (.cells #[.int .i64 7, .int .i64 q, .string i, .string ⟨#[]⟩, .int .i64 0, .int .i64 0, .string ⟨#[]⟩] 54)); have hcx := fun i => blk_cell BX.out i; have hrx : (w4.alloc (.cells #[.int .i64 7, .int .i64 q, .string i, .string ⟨#[]⟩, .int .i64 0, .int .i64 0, .string ⟨#[]⟩] 54)).heap[W.heap.size]? = some (.cells #[.int .i64 0, .int .i64 0, .string ⟨#[]⟩, .string ⟨#[]⟩, .int .i64 0, .int .i64 0, .string ⟨#[]⟩] 54 (0, 0)) := B3.out.res; have hrc := fun i => blk_cell hrx i; have hrz := fun i => blk_frozen hrx i; clear hrx hal hb)
      | (go_at_call 81; ((with_reducible refine (HRp.out _ B3.out.pre).mono ?_)); rintro en w5 ⟨rfl, ⟨k, hk, hf⟩, hv, ht⟩; clear hrc hrz hcx; have B4 := Aside0.mk (B3.out.call hf hv ht); have hrx : w5.heap[W.heap.size]? = some (.cells #[.int .i64 0, .int .i64 0, .string ⟨#[]⟩, .string ⟨#[]⟩, .int .i64 0, .int .i64 0, .string ⟨#[]⟩] 54 (0, 0)) := B4.out.res; have hrc := fun i => blk_cell hrx i; have hrz := fun i => blk_frozen hrx i; clear hrx hf hv ht))
    have hB := B4.out.fill7 (.int .i64 o.f0) (.int .i64 o.f1) (.string o.f2) (.string o.f3) (.int .i64 o.f4) (.int .i64 o.f5) (.string o.f6)
    rw [HR.out]
    refine bodyPost_ret (results_ctt rfl _ _ W.heap.size 54 #[.int .i64 o.f0, .int .i64 o.f1, .string o.f2, .string o.f3, .int .i64 o.f4, .int .i64 o.f5, .string o.f6] (0, 0) _ rfl hB.res Tryd.underlying54 rfl (by kernel_rfl)) rfl ?_
    exact hB.take hk
  by_cases c9 : v = ⟨#[57]⟩
  · subst c9
    have HR := Aside0.mk (takeP_9 E1 E2)
    have HV := Aside0.mk hv
    clear h he hv hzl hor hor2 E1 E2 c8
    generalize takeP ⟨#[57]⟩ F = res at *
    go_enter Tryd.func80, Tryd.ntmps80
    go_wp2_with (first
      | (go_at_call 59; ((with_reducible refine (B0.out.kind (by decide) HE0.out HV.out).mono ?_)); rintro en w2 ⟨rfl, hb⟩; have hrx : w2.heap[W.heap.size]? = some (.cells #[.int .i64 0, .int .i64 0, .string ⟨#[]⟩, .string ⟨#[]⟩, .int .i64 0, .int .i64 0, .string ⟨#[]⟩] 54 (0, 0)) := hb.res; have hrc := fun i => blk_cell hrx i; have hrz := fun i => blk_frozen hrx i; have B1 := Aside0.mk hb; clear hrx hb)
      | (go_at_call 61; ((with_reducible refine (B1.out.int HE1.out (i64ok_of (by decide) (by decide)) (by decide) HZ.out).mono ?_)); rintro en w3 ⟨rfl, hb⟩; (try clear hrc hrz); have B2 := Aside0.mk hb; clear hb)
      | (go_at_call 60; ((with_reducible refine (B2.out.name HE2.out (i64ok_of (by decide) (by decide)) (by decide) HZ.out).mono ?_)); rintro en w4 ⟨rfl, hb⟩; have hal : Below w4.heap.size w4 (w4.alloc (.cells #[.int .i64 7, .int .i64 q, .string i, .string ⟨#[]⟩, .int .i64 0, .int .i64 0, .string ⟨#[]⟩] 54)) := (Below.refl _ _).alloc (Nat.le_refl _) _; have B3 := Aside0.mk (hb.below hal); have BX := Aside0.mk (blk_new w4 (.cells #[.int .i64 7, .int .i64 q, .string i, .string ⟨#[]⟩, .int .i64 0, .int .i64 0, .string ⟨#[]⟩] 54)); have hcx := fun i => blk_cell BX.out i; have hrx : (w4.alloc (.cells #[.int .i64 7, .int .i64 q, .string i, .string ⟨#[]⟩, .int .i64 0, .int .i64 0, .string ⟨#[]⟩] 54)).heap[W.heap.size]? = some (.cells #[.int .i64 0, .int .i64 0, .string ⟨#[]⟩, .string ⟨#[]⟩, .int .i64 0, .int .i64 0, .string ⟨#[]⟩] 54 (0, 0)) := B3.out.res; have hrc := fun i => blk_cell hrx i; have hrz := fun i => blk_frozen hrx i; clear hrx hal hb))
    have hB := B3.out.fill7 (.int .i64 7) (.int .i64 q) (.string i) (.string ⟨#[]⟩) (.int .i64 0) (.int .i64 0) (.string ⟨#[]⟩)
    rw [HR.out]
    refine bodyPost_ret (results_ctt rfl _ _ W.heap.size 54 #[.int .i64 7, .int .i64 q, .string i, .string ⟨#[]⟩, .int .i64 0, .int .i64 0, .string ⟨#[]⟩] (0, 0) _ rfl hB.res Tryd.underlying54 rfl (by kernel_rfl)) rfl ?_
    exact hB.take (by decide)
  · have HR : Aside0 (takeP v F = ((zRep, 35, 120), F.mark 35)) := ⟨by unfold takeP; rw [if_neg c8, if_neg c9]⟩
    have HV := Aside0.mk hv
    have n1 : (v.toList == [56]) = false := by
      rw [ByteArray.toList_eq, beq_eq_false_iff_ne]
      exact fun e => c8 (ba_ext e)
    have n2 : (v.toList == [57]) = false := by
      rw [ByteArray.toList_eq, beq_eq_false_iff_ne]
      exact fun e => c9 (ba_ext e)
    have m1 : (v.toList != [56]) = true := by rw [bne, n1]; rfl
    have m2 : (v.toList != [57]) = true := by rw [bne, n2]; rfl
    have m3 : ¬ v.toList = [56] := by simpa using n1
    have m4 : ¬ v.toList = [57] := by simpa using n2
    clear h he hv hzl hor hor2 E1 E2 c8 c9
    generalize takeP v F = res at *
    go_enter Tryd.func80, Tryd.ntmps80
    go_wp2_with (go_at_call 59; ((with_reducible refine (B0.out.kind (by decide) HE0.out HV.out).mono ?_)); rintro en w2 ⟨rfl, hb⟩; have hrx : w2.heap[W.heap.size]? = some (.cells #[.int .i64 0, .int .i64 0, .string ⟨#[]⟩, .string ⟨#[]⟩, .int .i64 0, .int .i64 0, .string ⟨#[]⟩] 54 (0, 0)) := hb.res; have hrc := fun i => blk_cell hrx i; have hrz := fun i => blk_frozen hrx i; have B1 := Aside0.mk hb; clear hrx hb)
    have hB := B1.out.fill7 (.int .i64 0) (.int .i64 0) (.string ⟨#[]⟩) (.string ⟨#[]⟩) (.int .i64 0) (.int .i64 0) (.string ⟨#[]⟩)
    rw [HR.out]
    refine bodyPost_ret (results_ctt rfl _ _ W.heap.size 54 #[.int .i64 0, .int .i64 0, .string ⟨#[]⟩, .string ⟨#[]⟩, .int .i64 0, .int .i64 0, .string ⟨#[]⟩] (0, 0) _ rfl hB.res Tryd.underlying54 rfl (by kernel_rfl)) rfl ?_
    exact hB.take (by decide)
def replyD (s : ByteArray) : RepV × Int × Int :=
  match readB s with
  | (none, e) => (zRep, 0, e)
  | (some F, _) =>
    if (takeP ((F.vals 35).getD ⟨#[]⟩) F).1.2.2 ≠ 0 then (zRep, (takeP ((F.vals 35).getD ⟨#[]⟩) F).1.2)
    else if (doneL (takeP ((F.vals 35).getD ⟨#[]⟩) F).2).2 ≠ 0 then (zRep, doneL (takeP ((F.vals 35).getD ⟨#[]⟩) F).2) else ((takeP ((F.vals 35).getD ⟨#[]⟩) F).1.1, 0, 0)
theorem replyD_none {s : ByteArray} {e : Int} (h : readB s = (none, e)) : replyD s = (zRep, 0, e) := by unfold replyD; rw [h]
theorem replyD_bad {s : ByteArray} {F F' : FormS} {x : Int} {v : ByteArray} {o : RepV} {t e : Int} (h : readB s = (some F, x)) (hv : (F.vals 35).getD ⟨#[]⟩ = v) (ht : takeP v F = ((o, t, e), F')) (he : e ≠ 0) : replyD s = (zRep, t, e) := by
  unfold replyD; rw [h]; simp only [hv, ht]; rw [if_pos he]
theorem replyD_undone {s : ByteArray} {F F' : FormS} {x : Int} {v : ByteArray} {o : RepV} {t0 t e : Int} (h : readB s = (some F, x)) (hv : (F.vals 35).getD ⟨#[]⟩ = v) (ht : takeP v F = ((o, t0, 0), F')) (hd : doneL F' = (t, e)) (he : e ≠ 0) : replyD s = (zRep, t, e) := by
  unfold replyD; rw [h]; simp only [hv, ht, hd]; rw [if_neg (by simp), if_pos he]
theorem replyD_good {s : ByteArray} {F F' : FormS} {x : Int} {v : ByteArray} {o : RepV} {t0 t : Int} (h : readB s = (some F, x)) (hv : (F.vals 35).getD ⟨#[]⟩ = v) (ht : takeP v F = ((o, t0, 0), F')) (hd : doneL F' = (t, 0)) : replyD s = (o, 0, 0) := by
  unfold replyD; rw [h]; simp only [hv, ht, hd]; rw [if_neg (by simp), if_neg (by simp)]
def RepIs (r : RepV × Int × Int) (w : World) (e : Ending) (w' : World) : Prop := e = .returned (.tuple #[.agg #[.int .i64 r.1.f0, .int .i64 r.1.f1, .string r.1.f2, .string r.1.f3, .int .i64 r.1.f4, .int .i64 r.1.f5, .string r.1.f6], .int .i64 r.2.1, .int .i64 r.2.2]) ∧ Below w.heap.size w w'
theorem RepIs.mk_ {r : RepV × Int × Int} {o : RepV} {t x : Int} {w w' : World} (h : r = (o, t, x)) (hb : Below w.heap.size w w') : RepIs r w (.returned (.tuple #[.agg #[.int .i64 o.f0, .int .i64 o.f1, .string o.f2, .string o.f3, .int .i64 o.f4, .int .i64 o.f5, .string o.f6], .int .i64 t, .int .i64 x])) w' := by
  subst h; exact ⟨rfl, hb⟩
set_option maxRecDepth 100000 in
set_option maxHeartbeats 8000000 in
theorem decode_reply_none (s : ByteArray) (w : World) (hs : s.size ≤ 140737488351232) (e : Int) (hq : readB s = (none, e)) (he : e ≠ 0) :
    Calls Tryd.prog 79 #[.string s, .func (.func 80) #[] #[]] w (RepIs (replyD s) w) := by
  have hs1 : (w.alloc (.cells #[.int .i64 0, .int .i64 0, .string ⟨#[]⟩, .string ⟨#[]⟩, .int .i64 0, .int .i64 0, .string ⟨#[]⟩] 54)).heap.size = w.heap.size + 1 := World.size_alloc _ _
  have HR := Aside0.mk (read_walk s ((w.alloc (.cells #[.int .i64 0, .int .i64 0, .string ⟨#[]⟩, .string ⟨#[]⟩, .int .i64 0, .int .i64 0, .string ⟨#[]⟩] 54)).alloc (.cells #[.int .i64 0, .int .i64 0, .string ⟨#[]⟩, .string ⟨#[]⟩, .int .i64 0, .int .i64 0, .string ⟨#[]⟩] 54)) hs)
  have HD := Aside0.mk (replyD_none hq)
  rw [hq] at HR
  have t1 : (e != 0) = true := by rw [bne_iff_ne]; exact he
  have BK0 := Aside0.mk (blk_alloc (blk_new w (.cells #[.int .i64 0, .int .i64 0, .string ⟨#[]⟩, .string ⟨#[]⟩, .int .i64 0, .int .i64 0, .string ⟨#[]⟩] 54)) (.cells #[.int .i64 0, .int .i64 0, .string ⟨#[]⟩, .string ⟨#[]⟩, .int .i64 0, .int .i64 0, .string ⟨#[]⟩] 54))
  have BN0 : Aside0 (((w.alloc (.cells #[.int .i64 0, .int .i64 0, .string ⟨#[]⟩, .string ⟨#[]⟩, .int .i64 0, .int .i64 0, .string ⟨#[]⟩] 54)).alloc (.cells #[.int .i64 0, .int .i64 0, .string ⟨#[]⟩, .string ⟨#[]⟩, .int .i64 0, .int .i64 0, .string ⟨#[]⟩] 54)).heap[w.heap.size + 1]? = some (.cells #[.int .i64 0, .int .i64 0, .string ⟨#[]⟩, .string ⟨#[]⟩, .int .i64 0, .int .i64 0, .string ⟨#[]⟩] 54 (0, 0))) := ⟨by have h := blk_new (w.alloc (.cells #[.int .i64 0, .int .i64 0, .string ⟨#[]⟩, .string ⟨#[]⟩, .int .i64 0, .int .i64 0, .string ⟨#[]⟩] 54)) (.cells #[.int .i64 0, .int .i64 0, .string ⟨#[]⟩, .string ⟨#[]⟩, .int .i64 0, .int .i64 0, .string ⟨#[]⟩] 54); rwa [hs1] at h⟩
  have HB0 : Aside0 (Below w.heap.size w ((w.alloc (.cells #[.int .i64 0, .int .i64 0, .string ⟨#[]⟩, .string ⟨#[]⟩, .int .i64 0, .int .i64 0, .string ⟨#[]⟩] 54)).alloc (.cells #[.int .i64 0, .int .i64 0, .string ⟨#[]⟩, .string ⟨#[]⟩, .int .i64 0, .int .i64 0, .string ⟨#[]⟩] 54))) := ⟨((Below.refl _ _).alloc (Nat.le_refl _) _).alloc (by rw [hs1]; omega) _⟩
  clear hq he hs1
  go_enter Tryd.func79, Tryd.ntmps79
  go_wp2_with (go_at_call 58; refine HR.out.mono ?_; rintro en w1 ⟨hb1, rfl⟩; have BK := Aside0.mk (blk_below BK0.out hb1); have BN := Aside0.mk (blk_below BN0.out hb1); have HB := Aside0.mk (HB0.out.trans (hb1.mono HB0.out.size)); clear hb1; have hc := fun i => blk_cell BK.out i; have hf := fun i => blk_frozen BK.out i; have hcn := fun i => blk_cell BN.out i)
  refine bodyPost_ret (results_ctt rfl _ _ w.heap.size 54 #[.int .i64 0, .int .i64 0, .string ⟨#[]⟩, .string ⟨#[]⟩, .int .i64 0, .int .i64 0, .string ⟨#[]⟩] (0, 0) _ rfl (blk_fill7 BK.out _ _ _ _ _ _ _) Tryd.underlying54 rfl (by kernel_rfl)) rfl ?_
  exact RepIs.mk_ (o := zRep) HD.out (low_fill7 HB.out _ _ _ _ _ _ _)
set_option maxRecDepth 100000 in
set_option maxHeartbeats 8000000 in
theorem decode_reply_some (s : ByteArray) (w : World) (hs : s.size ≤ 140737488351232) (F : FormS) (x : Int) (hq : readB s = (some F, x)) :
    Calls Tryd.prog 79 #[.string s, .func (.func 80) #[] #[]] w (RepIs (replyD s) w) := by
  obtain ⟨v, hv⟩ : ∃ v, (F.vals 35).getD ⟨#[]⟩ = v := ⟨_, rfl⟩
  obtain ⟨o, t0, e0, F', hto⟩ : ∃ o t e F', takeP v F = ((o, t, e), F') := ⟨_, _, _, _, rfl⟩
  obtain ⟨td, ed, hd⟩ : ∃ t e, doneL F' = (t, e) := ⟨_, _, rfl⟩
  obtain ⟨hx, hF, h0, h35, hv35⟩ := readB_some hq
  subst hx
  have he0 : F.e = 0 := by rw [hF]; rfl
  have hvl : F.vals = valsOf (fieldsB s) := by rw [hF]; rfl
  have hor : F'.order.length ≤ 1000 := by
    have h1 : F'.order = F.order := by have := takeP_order v F; rw [hto] at this; exact this
    rw [h1, hF]
    show (tagsOf (fieldsB s)).length ≤ 1000
    unfold tagsOf
    rw [List.length_map]
    have := fieldsB_len s
    omega
  have horF : F.order.length ≤ 1000 := by
    rw [hF]
    show (tagsOf (fieldsB s)).length ≤ 1000
    unfold tagsOf
    rw [List.length_map]
    have := fieldsB_len s
    omega
  have hol : 0 < F.order.length := by
    rw [hF]
    show 0 < (tagsOf (fieldsB s)).length
    unfold tagsOf
    rw [List.length_map]
    exact h0
  have hz : ∀ y ∈ fieldsB s, y.f1.size ≤ 512 := fun y hy => (fieldsB_good s y hy).2.2
  have hs1 : (w.alloc (.cells #[.int .i64 0, .int .i64 0, .string ⟨#[]⟩, .string ⟨#[]⟩, .int .i64 0, .int .i64 0, .string ⟨#[]⟩] 54)).heap.size = w.heap.size + 1 := World.size_alloc _ _
  have hs2 : ((w.alloc (.cells #[.int .i64 0, .int .i64 0, .string ⟨#[]⟩, .string ⟨#[]⟩, .int .i64 0, .int .i64 0, .string ⟨#[]⟩] 54)).alloc (.cells #[.int .i64 0, .int .i64 0, .string ⟨#[]⟩, .string ⟨#[]⟩, .int .i64 0, .int .i64 0, .string ⟨#[]⟩] 54)).heap.size = w.heap.size + 2 := by rw [World.size_alloc, hs1]
  have HR := Aside0.mk (read_walk s ((w.alloc (.cells #[.int .i64 0, .int .i64 0, .string ⟨#[]⟩, .string ⟨#[]⟩, .int .i64 0, .int .i64 0, .string ⟨#[]⟩] 54)).alloc (.cells #[.int .i64 0, .int .i64 0, .string ⟨#[]⟩, .string ⟨#[]⟩, .int .i64 0, .int .i64 0, .string ⟨#[]⟩] 54)) hs)
  rw [hq] at HR
  have HTk : Aside0 (∀ g p W, FormPre g p (fieldsB s) F 0 W → Calls Tryd.prog 80 #[.pointer (some ⟨g, 0, none⟩)] W fun e w' => e = .returned (.tuple #[.agg #[.int .i64 o.f0, .int .i64 o.f1, .string o.f2, .string o.f3, .int .i64 o.f4, .int .i64 o.f5, .string o.f6], .int .i64 t0, .int .i64 e0]) ∧ (∃ k, k ≤ 1000 ∧ FormIs g p F' k w') ∧ Turned (FormB g p) W w') := ⟨fun g p W h => by
    have h1 := take_reply_walk g p (fieldsB s) F v W h he0 hv hz horF
    rw [hto] at h1
    exact h1.mono fun e w' hh => ⟨hh.1, hh.2.1, hh.2.2.2⟩⟩
  have HFp : Aside0 (∀ g p W, FormIs g p F 0 W → FormPre g p (fieldsB s) F 0 W) := ⟨fun g p W h => h.pre hvl hol⟩
  have BK0 := Aside0.mk (blk_alloc (blk_new w (.cells #[.int .i64 0, .int .i64 0, .string ⟨#[]⟩, .string ⟨#[]⟩, .int .i64 0, .int .i64 0, .string ⟨#[]⟩] 54)) (.cells #[.int .i64 0, .int .i64 0, .string ⟨#[]⟩, .string ⟨#[]⟩, .int .i64 0, .int .i64 0, .string ⟨#[]⟩] 54))
  have BN0 : Aside0 (((w.alloc (.cells #[.int .i64 0, .int .i64 0, .string ⟨#[]⟩, .string ⟨#[]⟩, .int .i64 0, .int .i64 0, .string ⟨#[]⟩] 54)).alloc (.cells #[.int .i64 0, .int .i64 0, .string ⟨#[]⟩, .string ⟨#[]⟩, .int .i64 0, .int .i64 0, .string ⟨#[]⟩] 54)).heap[w.heap.size + 1]? = some (.cells #[.int .i64 0, .int .i64 0, .string ⟨#[]⟩, .string ⟨#[]⟩, .int .i64 0, .int .i64 0, .string ⟨#[]⟩] 54 (0, 0))) := ⟨by have h := blk_new (w.alloc (.cells #[.int .i64 0, .int .i64 0, .string ⟨#[]⟩, .string ⟨#[]⟩, .int .i64 0, .int .i64 0, .string ⟨#[]⟩] 54)) (.cells #[.int .i64 0, .int .i64 0, .string ⟨#[]⟩, .string ⟨#[]⟩, .int .i64 0, .int .i64 0, .string ⟨#[]⟩] 54); rwa [hs1] at h⟩
  have HB0 : Aside0 (Below w.heap.size w ((w.alloc (.cells #[.int .i64 0, .int .i64 0, .string ⟨#[]⟩, .string ⟨#[]⟩, .int .i64 0, .int .i64 0, .string ⟨#[]⟩] 54)).alloc (.cells #[.int .i64 0, .int .i64 0, .string ⟨#[]⟩, .string ⟨#[]⟩, .int .i64 0, .int .i64 0, .string ⟨#[]⟩] 54))) := ⟨((Below.refl _ _).alloc (Nat.le_refl _) _).alloc (by rw [hs1]; omega) _⟩
  have HDb : Aside0 (e0 ≠ 0 → replyD s = (zRep, t0, e0)) := ⟨fun h => replyD_bad hq hv hto h⟩
  have HDu : Aside0 (e0 = 0 → ed ≠ 0 → replyD s = (zRep, td, ed)) := ⟨fun h1 h2 => replyD_undone hq hv (by rw [hto, h1]) hd h2⟩
  have HDg : Aside0 (e0 = 0 → ed = 0 → replyD s = (o, 0, 0)) := ⟨fun h1 h2 => replyD_good hq hv (by rw [hto, h1]) (by rw [hd, h2])⟩
  have HDn := Aside0.mk hd
  have HO := Aside0.mk hor
  clear horF hq hv hto hd hF h0 h35 hv35 he0 hvl hor hol hz hs1
  generalize fieldsB s = L at *
  generalize replyD s = res at *
  by_cases ce : e0 = 0
  · have t2 : (e0 != 0) = false := by rw [ce]; rfl
    have t3 : (e0 == 0) = true := by rw [ce]; rfl
    by_cases cd : ed = 0
    · have HD := Aside0.mk (HDg.out ce cd)
      have t4 : (ed != 0) = false := by rw [cd]; rfl
      clear ce cd HDb HDu HDg
      go_enter Tryd.func79, Tryd.ntmps79
      go_wp2_with (first
        | (go_at_call 58; refine HR.out.mono ?_; rintro en w1 ⟨hb1, g, p, rfl, hf, h1, h2, h3, h4⟩; rw [hs2] at h1 h2; have HG : Aside0 (w.heap.size + 2 ≤ g ∧ w.heap.size + 2 ≤ p.a) := ⟨⟨h1, h2⟩⟩; have HP := Aside0.mk (HFp.out _ _ _ hf); have BK1 := Aside0.mk (blk_below BK0.out hb1); have BN1 := Aside0.mk (blk_below BN0.out hb1); have HB1 := Aside0.mk (HB0.out.trans (hb1.mono HB0.out.size)); clear hb1 hf h1 h2 h3 h4)
        | (go_at_call 80; (first | ((with_reducible refine (HTk.out _ _ _ HP.out).mono ?_)) | (refine (HTk.out _ _ _ HP.out).mono ?_)); rintro en w2 ⟨rfl, ⟨k, hk, hf⟩, ht⟩; have hne : ∀ r, r < w.heap.size + 2 → ¬ FormB g p r := (fun r hr e => by have := HG.out; rcases e with e | e <;> omega); have BK2 := Aside0.mk ((ht.block _ (blk_lt BK1.out) (hne _ (by omega))).trans BK1.out); have HB2 := Aside0.mk (HB1.out.trans (ht.below (B := w.heap.size) (fun j hj => by have := HG.out; rcases hj with e | e <;> omega) HB1.out.size)); have HF2 := Aside0.mk hf; have hal : Below w2.heap.size w2 (w2.alloc (.cells #[.int .i64 o.f0, .int .i64 o.f1, .string o.f2, .string o.f3, .int .i64 o.f4, .int .i64 o.f5, .string o.f6] 54)) := (Below.refl _ _).alloc (Nat.le_refl _) _; have HF3 := Aside0.mk (hf.below hal); have HB3 := Aside0.mk (HB2.out.trans (hal.mono HB2.out.size)); have BK3 := Aside0.mk (blk_below BK2.out hal); have BX := Aside0.mk (blk_new w2 (.cells #[.int .i64 o.f0, .int .i64 o.f1, .string o.f2, .string o.f3, .int .i64 o.f4, .int .i64 o.f5, .string o.f6] 54)); clear hal ht hf hne)
        | (go_at_call 62; ((with_reducible refine (form_done_q HF3.out HO.out HDn.out).mono ?_)); rintro en w3 ⟨rfl, hb⟩; have BK4 := Aside0.mk (blk_below BK3.out hb); have BX4 := Aside0.mk (blk_below BX.out hb); have HB4 := Aside0.mk (HB3.out.trans (hb.mono HB3.out.size)); have hc := fun i => blk_cell BK4.out i; have hf := fun i => blk_frozen BK4.out i; have hcx := fun i => blk_cell BX4.out i; clear hb))
      refine bodyPost_ret (results_ctt rfl _ _ w.heap.size 54 #[.int .i64 o.f0, .int .i64 o.f1, .string o.f2, .string o.f3, .int .i64 o.f4, .int .i64 o.f5, .string o.f6] (0, 0) _ rfl (blk_fill7 BK4.out _ _ _ _ _ _ _) Tryd.underlying54 rfl (by kernel_rfl)) rfl ?_
      exact RepIs.mk_ (o := o) HD.out (low_fill7 HB4.out _ _ _ _ _ _ _)
    · have HD := Aside0.mk (HDu.out ce cd)
      have t4 : (ed != 0) = true := by rw [bne_iff_ne]; exact cd
      clear ce cd HDb HDu HDg
      go_enter Tryd.func79, Tryd.ntmps79
      go_wp2_with (first
        | (go_at_call 58; refine HR.out.mono ?_; rintro en w1 ⟨hb1, g, p, rfl, hf, h1, h2, h3, h4⟩; rw [hs2] at h1 h2; have HG : Aside0 (w.heap.size + 2 ≤ g ∧ w.heap.size + 2 ≤ p.a) := ⟨⟨h1, h2⟩⟩; have HP := Aside0.mk (HFp.out _ _ _ hf); have BK1 := Aside0.mk (blk_below BK0.out hb1); have BN1 := Aside0.mk (blk_below BN0.out hb1); have HB1 := Aside0.mk (HB0.out.trans (hb1.mono HB0.out.size)); clear hb1 hf h1 h2 h3 h4)
        | (go_at_call 80; (first | ((with_reducible refine (HTk.out _ _ _ HP.out).mono ?_)) | (refine (HTk.out _ _ _ HP.out).mono ?_)); rintro en w2 ⟨rfl, ⟨k, hk, hf⟩, ht⟩; have hne : ∀ r, r < w.heap.size + 2 → ¬ FormB g p r := (fun r hr e => by have := HG.out; rcases e with e | e <;> omega); have BK2 := Aside0.mk ((ht.block _ (blk_lt BK1.out) (hne _ (by omega))).trans BK1.out); have BN2 := Aside0.mk ((ht.block _ (blk_lt BN1.out) (hne _ (by omega))).trans BN1.out); have HB2 := Aside0.mk (HB1.out.trans (ht.below (B := w.heap.size) (fun j hj => by have := HG.out; rcases hj with e | e <;> omega) HB1.out.size)); have hal : Below w2.heap.size w2 (w2.alloc (.cells #[.int .i64 o.f0, .int .i64 o.f1, .string o.f2, .string o.f3, .int .i64 o.f4, .int .i64 o.f5, .string o.f6] 54)) := (Below.refl _ _).alloc (Nat.le_refl _) _; have HF3 := Aside0.mk (hf.below hal); have HB3 := Aside0.mk (HB2.out.trans (hal.mono HB2.out.size)); have BK3 := Aside0.mk (blk_below BK2.out hal); have BN3 := Aside0.mk (blk_below BN2.out hal); clear hal ht hf hne)
        | (go_at_call 62; ((with_reducible refine (form_done_q HF3.out HO.out HDn.out).mono ?_)); rintro en w3 ⟨rfl, hb⟩; have BK4 := Aside0.mk (blk_below BK3.out hb); have BN4 := Aside0.mk (blk_below BN3.out hb); have HB4 := Aside0.mk (HB3.out.trans (hb.mono HB3.out.size)); have hc := fun i => blk_cell BK4.out i; have hf := fun i => blk_frozen BK4.out i; have hcn := fun i => blk_cell BN4.out i; clear hb))
      refine bodyPost_ret (results_ctt rfl _ _ w.heap.size 54 #[.int .i64 0, .int .i64 0, .string ⟨#[]⟩, .string ⟨#[]⟩, .int .i64 0, .int .i64 0, .string ⟨#[]⟩] (0, 0) _ rfl (blk_fill7 BK4.out _ _ _ _ _ _ _) Tryd.underlying54 rfl (by kernel_rfl)) rfl ?_
      exact RepIs.mk_ (o := zRep) HD.out (low_fill7 HB4.out _ _ _ _ _ _ _)
  · have t2 : (e0 != 0) = true := by rw [bne_iff_ne]; exact ce
    have t3 : (e0 == 0) = false := by rw [beq_eq_false_iff_ne]; exact ce
    have HD := Aside0.mk (HDb.out ce)
    clear ce HDb HDu HDg
    go_enter Tryd.func79, Tryd.ntmps79
    go_wp2_with (first
      | (go_at_call 58; refine HR.out.mono ?_; rintro en w1 ⟨hb1, g, p, rfl, hf, h1, h2, h3, h4⟩; rw [hs2] at h1 h2; have HG : Aside0 (w.heap.size + 2 ≤ g ∧ w.heap.size + 2 ≤ p.a) := ⟨⟨h1, h2⟩⟩; have HP := Aside0.mk (HFp.out _ _ _ hf); have BK1 := Aside0.mk (blk_below BK0.out hb1); have BN1 := Aside0.mk (blk_below BN0.out hb1); have HB1 := Aside0.mk (HB0.out.trans (hb1.mono HB0.out.size)); clear hb1 hf h1 h2 h3 h4)
      | (go_at_call 80; (first | ((with_reducible refine (HTk.out _ _ _ HP.out).mono ?_)) | (refine (HTk.out _ _ _ HP.out).mono ?_)); rintro en w2 ⟨rfl, ⟨k, hk, hf⟩, ht⟩; have hne : ∀ r, r < w.heap.size + 2 → ¬ FormB g p r := (fun r hr e => by have := HG.out; rcases e with e | e <;> omega); have BK2 := Aside0.mk ((ht.block _ (blk_lt BK1.out) (hne _ (by omega))).trans BK1.out); have BN2 := Aside0.mk ((ht.block _ (blk_lt BN1.out) (hne _ (by omega))).trans BN1.out); have HB2 := Aside0.mk (HB1.out.trans (ht.below (B := w.heap.size) (fun j hj => by have := HG.out; rcases hj with e | e <;> omega) HB1.out.size)); have hal : Below w2.heap.size w2 (w2.alloc (.cells #[.int .i64 o.f0, .int .i64 o.f1, .string o.f2, .string o.f3, .int .i64 o.f4, .int .i64 o.f5, .string o.f6] 54)) := (Below.refl _ _).alloc (Nat.le_refl _) _; have HB3 := Aside0.mk (HB2.out.trans (hal.mono HB2.out.size)); have BK3 := Aside0.mk (blk_below BK2.out hal); have BN3 := Aside0.mk (blk_below BN2.out hal); have hc := fun i => blk_cell BK3.out i; have hfz := fun i => blk_frozen BK3.out i; have hcn := fun i => blk_cell BN3.out i; clear hal ht hf hne))
    refine bodyPost_ret (results_ctt rfl _ _ w.heap.size 54 #[.int .i64 0, .int .i64 0, .string ⟨#[]⟩, .string ⟨#[]⟩, .int .i64 0, .int .i64 0, .string ⟨#[]⟩] (0, 0) _ rfl (blk_fill7 BK3.out _ _ _ _ _ _ _) Tryd.underlying54 rfl (by kernel_rfl)) rfl ?_
    exact RepIs.mk_ (o := zRep) HD.out (low_fill7 HB3.out _ _ _ _ _ _ _)
theorem decode_reply_walk (s : ByteArray) (w : World) (hs : s.size ≤ 140737488351232) : Calls Tryd.prog 79 #[.string s, .func (.func 80) #[] #[]] w (RepIs (replyD s) w) := by
  rcases hr : readB s with ⟨F, x⟩
  cases F with
  | none =>
    refine decode_reply_none s w hs x hr ?_
    intro e
    subst e
    unfold readB at hr
    split at hr
    · rename_i g; simp only [Prod.mk.injEq, true_and] at hr; omega
    split at hr
    · simp at hr
    split at hr <;> simp at hr
  | some F => exact decode_reply_some s w hs F x hr
set_option maxRecDepth 100000 in
theorem DecodeReply_walk (s : ByteArray) (w : World) (hs : s.size ≤ 140737488351232) : Calls Tryd.prog 31 #[.string s] w (RepIs (replyD s) w) := by
  have BK0 := Aside0.mk (blk_new w (.cells #[.int .i64 0, .int .i64 0, .string ⟨#[]⟩, .string ⟨#[]⟩, .int .i64 0, .int .i64 0, .string ⟨#[]⟩] 54))
  have HB0 : Aside0 (Below w.heap.size w (w.alloc (.cells #[.int .i64 0, .int .i64 0, .string ⟨#[]⟩, .string ⟨#[]⟩, .int .i64 0, .int .i64 0, .string ⟨#[]⟩] 54))) := ⟨(Below.refl _ _).alloc (Nat.le_refl _) _⟩
  have HDc : Aside0 (Calls Tryd.prog 79 #[.string s, .func (.func 80) #[] #[]] (w.alloc (.cells #[.int .i64 0, .int .i64 0, .string ⟨#[]⟩, .string ⟨#[]⟩, .int .i64 0, .int .i64 0, .string ⟨#[]⟩] 54)) (RepIs (replyD s) (w.alloc (.cells #[.int .i64 0, .int .i64 0, .string ⟨#[]⟩, .string ⟨#[]⟩, .int .i64 0, .int .i64 0, .string ⟨#[]⟩] 54)))) := ⟨decode_reply_walk s _ hs⟩
  generalize replyD s = res at *
  obtain ⟨o, t, x⟩ := res
  go_enter Tryd.func31, Tryd.ntmps31
  go_wp2_with (go_at_call 79; ((with_reducible refine HDc.out.mono ?_)); rintro en w1 ⟨rfl, hb⟩; have BK := Aside0.mk (blk_below BK0.out hb); have HB := Aside0.mk (HB0.out.trans (hb.mono HB0.out.size)); clear hb; have hc := fun i => blk_cell BK.out i; have hf := fun i => blk_frozen BK.out i)
  refine bodyPost_ret (results_ctt rfl _ _ w.heap.size 54 #[.int .i64 o.f0, .int .i64 o.f1, .string o.f2, .string o.f3, .int .i64 o.f4, .int .i64 o.f5, .string o.f6] (0, 0) _ rfl (blk_fill7 BK.out _ _ _ _ _ _ _) Tryd.underlying54 rfl (by kernel_rfl)) rfl ?_
  exact RepIs.mk_ (o := o) rfl (low_fill7 HB.out _ _ _ _ _ _ _)
def post_DecodeReply.f (a0 : ByteArray) : Option (Int × Int × ByteArray × ByteArray × Int × Int × ByteArray × Int × Int) := if a0.size ≤ 140737488351232 then some ((replyD a0).1.f0, (replyD a0).1.f1, (replyD a0).1.f2, (replyD a0).1.f3, (replyD a0).1.f4, (replyD a0).1.f5, (replyD a0).1.f6, (replyD a0).2.1, (replyD a0).2.2) else none
theorem post_DecodeReply.calls (a0 : ByteArray) (r1 : Int) (r2 : Int) (r3 : ByteArray) (r4 : ByteArray) (r5 : Int) (r6 : Int) (r7 : ByteArray) (r8 : Int) (r9 : Int) (w : World) (h : post_DecodeReply.f a0 = some (r1, r2, r3, r4, r5, r6, r7, r8, r9)) :
    Calls Tryd.prog 31 #[.string a0] w fun e w' => e = .returned (.tuple #[.agg #[.int .i64 r1, .int .i64 r2, .string r3, .string r4, .int .i64 r5, .int .i64 r6, .string r7], .int .i64 r8, .int .i64 r9]) ∧ Below w.heap.size w w' := by
  unfold post_DecodeReply.f at h
  by_cases c : a0.size ≤ 140737488351232
  · rw [if_pos c] at h
    have hw := DecodeReply_walk a0 w c
    simp only [Option.some.injEq, Prod.mk.injEq] at h
    obtain ⟨rfl, rfl, rfl, rfl, rfl, rfl, rfl, rfl, rfl⟩ := h
    exact hw
  · rw [if_neg c] at h; cases h
end Go.Proofs.YtgfigkfcmkdjdaaDoor.B
end
