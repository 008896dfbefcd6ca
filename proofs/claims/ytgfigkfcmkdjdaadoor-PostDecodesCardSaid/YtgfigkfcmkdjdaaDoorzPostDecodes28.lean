/- The functions that the law reaches, as plain Lean functions, and their contracts: texts merged. -/
import Derived.Test.YtgfigkfcmkdjdaaDoorzPostDecodes3
import Derived.Test.YtgfigkfcmkdjdaaDoorzPostDecodes0
import Derived.Test.YtgfigkfcmkdjdaaDoorzPostDecodes1
import Derived.Test.YtgfigkfcmkdjdaaDoorzPostDecodes2
import Derived.Test.YtgfigkfcmkdjdaaDoorzPostDecodes4
import Derived.Test.YtgfigkfcmkdjdaaDoorzPostDecodes5
import Derived.Test.YtgfigkfcmkdjdaaDoorzPostDecodes6
import Derived.Test.YtgfigkfcmkdjdaaDoorzPostDecodes7
import Derived.Test.YtgfigkfcmkdjdaaDoorzPostDecodes8
import Derived.Test.YtgfigkfcmkdjdaaDoorzPostDecodes9
import Derived.Test.YtgfigkfcmkdjdaaDoorzPostDecodes10
import Derived.Test.YtgfigkfcmkdjdaaDoorzPostDecodes11
import Derived.Test.YtgfigkfcmkdjdaaDoorzPostDecodes12
import Derived.Test.YtgfigkfcmkdjdaaDoorzPostDecodes13
import Derived.Test.YtgfigkfcmkdjdaaDoorzPostDecodes14
import Derived.Test.YtgfigkfcmkdjdaaDoorzPostDecodes15
import Derived.Test.YtgfigkfcmkdjdaaDoorzPostDecodes16
import Derived.Test.YtgfigkfcmkdjdaaDoorzPostDecodes17
import Derived.Test.YtgfigkfcmkdjdaaDoorzPostDecodes18
import Derived.Test.YtgfigkfcmkdjdaaDoorzPostDecodes19
import Derived.Test.YtgfigkfcmkdjdaaDoorzPostDecodes20
import Derived.Test.YtgfigkfcmkdjdaaDoorzPostDecodes21
section
namespace Go.Proofs.YtgfigkfcmkdjdaaDoor.B
open Go.RowKit Go.Proofs.YtgfigkfcmkdjdaaDoorW.PrintWords Go.Proofs.YtgfigkfcmkdjdaaDoorW.PrintLast Go.Proofs.YtgfigkfcmkdjdaaDoorW.PrintMore
attribute [local go_sem] max2_int min2_int max_two min_two max_three min_three max_four min_four   -- for this text's walks alone
set_option linter.unusedVariables false
set_option linter.unusedSimpArgs false
set_option maxRecDepth 100000 in
set_option maxHeartbeats 8000000 in
theorem ref14o_none (s : ByteArray) (w : World) (hs : s.size ≤ 140737488351232) (e : Int) (hq : readB s = (none, e)) (he : e ≠ 0) :
    Calls Tryd.prog 30 #[.string s] w (OrdIs (orderD s) w) := by
  have HR := Aside0.mk (ref_read_walk s (w.alloc (.cells #[.int .i64 0, .int .i64 0, .string ⟨#[]⟩, .string ⟨#[]⟩, .int .i64 0, .int .i64 0, .int .i64 0] 45)) hs)
  have HD := Aside0.mk (orderD_none hq)
  rw [hq] at HR
  have t1 : (e != 0) = true := by rw [bne_iff_ne]; exact he
  have BK0 := Aside0.mk (blk_new w (.cells #[.int .i64 0, .int .i64 0, .string ⟨#[]⟩, .string ⟨#[]⟩, .int .i64 0, .int .i64 0, .int .i64 0] 45))
  have HB0 : Aside0 (Below w.heap.size w (w.alloc (.cells #[.int .i64 0, .int .i64 0, .string ⟨#[]⟩, .string ⟨#[]⟩, .int .i64 0, .int .i64 0, .int .i64 0] 45))) := ⟨(Below.refl _ _).alloc (Nat.le_refl _) _⟩
  clear hq he
  go_enter Tryd.func30, Tryd.ntmps30
  go_wp2_with (go_at_call 63; refine HR.out.mono ?_; rintro en w1 ⟨hb1, rfl⟩; have BK := Aside0.mk (blk_below BK0.out hb1); have HLow := Aside0.mk (HB0.out.trans (hb1.mono HB0.out.size)); clear hb1; have hc := fun i => blk_cell BK.out i; have hf := fun i => blk_frozen BK.out i)
  refine bodyPost_ret (results_ctt rfl _ _ w.heap.size 45 #[.int .i64 0, .int .i64 0, .string ⟨#[]⟩, .string ⟨#[]⟩, .int .i64 0, .int .i64 0, .int .i64 0] (0, 0) _ rfl (blk_fill7 BK.out _ _ _ _ _ _ _) Tryd.underlying45 rfl (by kernel_rfl)) rfl ?_
  exact OrdIs.mk_ (o := zOrd) HD.out (low_fill7 HLow.out _ _ _ _ _ _ _)
set_option maxRecDepth 100000 in
set_option maxHeartbeats 8000000 in
theorem ref14o_k1 (s : ByteArray) (w : World) (hs : s.size ≤ 140737488351232) (F : FormS) (x : Int) (hq : readB s = (some F, x)) (td xd : Int) (h1 : 0 < (fieldsB s).length) (h8 : (fieldsB s)[0].f1 = ⟨#[68]⟩) (hd : doneL (asksT (ordSchema 1) (F.mark 35)).2 = (td, xd)) (hxd : xd = 0) :
    Calls Tryd.prog 30 #[.string s] w (OrdIs (orderD s) w) := by
  have HZ : Aside0 (∀ y ∈ fieldsB s, y.f1.size ≤ 512) := ⟨fun y hy => (fieldsB_good s y hy).2.2⟩
  have HR := Aside0.mk (ref_read_walk s (w.alloc (.cells #[.int .i64 0, .int .i64 0, .string ⟨#[]⟩, .string ⟨#[]⟩, .int .i64 0, .int .i64 0, .int .i64 0] 45)) hs)
  have hL : (fieldsB s).length ≤ 1000000 := by have := fieldsB_len s; omega
  obtain ⟨hx, hF, h0, h35, hv35⟩ := readB_some hq
  subst hx
  have HV : Aside0 ((F.vals 35).getD ⟨#[]⟩ = (fieldsB s)[0].f1) := ⟨by rw [hv35]; rfl⟩
  have he0 : F.e = 0 := by rw [hF]; rfl
  rw [hq] at HR
  have BK0 := Aside0.mk (blk_new w (.cells #[.int .i64 0, .int .i64 0, .string ⟨#[]⟩, .string ⟨#[]⟩, .int .i64 0, .int .i64 0, .int .i64 0] 45))
  have HB0 : Aside0 (Below w.heap.size w (w.alloc (.cells #[.int .i64 0, .int .i64 0, .string ⟨#[]⟩, .string ⟨#[]⟩, .int .i64 0, .int .i64 0, .int .i64 0] 45))) := ⟨(Below.refl _ _).alloc (Nat.le_refl _) _⟩
  have hws : (w.alloc (.cells #[.int .i64 0, .int .i64 0, .string ⟨#[]⟩, .string ⟨#[]⟩, .int .i64 0, .int .i64 0, .int .i64 0] 45)).heap.size = w.heap.size + 1 := World.size_alloc _ _
  rw [h8] at HV
  obtain ⟨v1, F1, E1⟩ : ∃ v F', askL (fun s => takeInt s 1 1099511627776) 0 (F.mark 35) 34 = (v, F') := ⟨_, _, rfl⟩
  obtain ⟨v2, F2, E2⟩ : ∃ v F', askL takeName ⟨#[]⟩ F1 11 = (v, F') := ⟨_, _, rfl⟩
  obtain ⟨v3, F3, E3⟩ : ∃ v F', askL takeName ⟨#[]⟩ F2 55 = (v, F') := ⟨_, _, rfl⟩
  obtain ⟨v4, F4, E4⟩ : ∃ v F', askL (fun s => takeInt s 1 2) 0 F3 54 = (v, F') := ⟨_, _, rfl⟩
  obtain ⟨v5, F5, E5⟩ : ∃ v F', askL (fun s => takeInt s 1 1099511627776) 0 F4 38 = (v, F') := ⟨_, _, rfl⟩
  obtain ⟨v6, F6, E6⟩ : ∃ v F', askL (fun s => takeInt s 1 1099511627776) 0 F5 44 = (v, F') := ⟨_, _, rfl⟩
  have ha : asksT (ordSchema 1) (F.mark 35) = ([.n v1, .s v2, .s v3, .n v4, .n v5, .n v6], F6) := by
    rw [show ordSchema 1 = [.int 34 1 1099511627776, .name 11, .name 55, .int 54 1 2, .int 38 1 1099511627776, .int 44 1 1099511627776] from rfl, asksT_int E1, asksT_name E2, asksT_name E3, asksT_int E4, asksT_int E5, asksT_int E6]; rfl
  rw [ha] at hd
  have ED : doneL F6 = (td, xd) := hd
  have hto : takeO ⟨#[68]⟩ F = ((⟨1, v1, v2, v3, v4, v5, v6⟩, 0, 0), F6) := by unfold takeO; rw [show ordKind ⟨#[68]⟩ = 1 from rfl, if_neg (by decide), ha]; rfl
  subst hxd
  have HD := Aside0.mk (orderD_good hq HV.out hto ED)
  have HE1 := Aside0.mk E1
  have HE2 := Aside0.mk E2
  have HE3 := Aside0.mk E3
  have HE4 := Aside0.mk E4
  have HE5 := Aside0.mk E5
  have HE6 := Aside0.mk E6
  have HED := Aside0.mk ED
  clear ha hto hd ED hF hv35 h35 hq E1 E2 E3 E4 E5 E6
  generalize fieldsB s = L at *
  have HL := Aside0.mk hL
  have H8 := Aside0.mk h8
  have HE0 := Aside0.mk he0
  clear hL h8 he0
  go_enter Tryd.func30, Tryd.ntmps30
  go_wp2_with (first
    | (go_at_call 63; refine HR.out.mono ?_; rintro en w1 ⟨hb1, g, A, c, rfl, hf, hg⟩; rw [hws] at hg; have B0 := Aside0.mk (RefBox.start (w := w) (T := 45) (Z0 := #[.int .i64 0, .int .i64 0, .string ⟨#[]⟩, .string ⟨#[]⟩, .int .i64 0, .int .i64 0, .int .i64 0]) hf (blk_below BK0.out hb1) (HB0.out.trans (hb1.mono HB0.out.size)) (by omega) (Nat.le_refl _)); clear hb1 hf hg HR BK0 HB0 hws)
    | (go_at_call 64; refine (B0.out.kind HL.out (by decide) h1 HE0.out H8.out).mono ?_; rintro en w2 ⟨rfl, hb⟩; have hbx : w2.heap[w1.heap.size]? = some (.cells #[.int .i64 0, .int .i64 0, .string ⟨#[]⟩, .string ⟨#[]⟩, .int .i64 0, .int .i64 0, .int .i64 0] 45 (0, 0)) := hb.box; have hc := fun i => blk_cell hbx i; have hz := fun i => blk_frozen hbx i; have B1 := Aside0.mk (hb.set 0 (.int .i64 1)); clear hb hbx B0)
    | (go_at_call 66; ((with_reducible refine (B1.out.int HE1.out HL.out (by omega) HZ.out).mono ?_)); rintro en w13 ⟨rfl, hb⟩; (try clear hc hz); have hbx : w13.heap[w1.heap.size]? = some (.cells #[.int .i64 1, .int .i64 0, .string ⟨#[]⟩, .string ⟨#[]⟩, .int .i64 0, .int .i64 0, .int .i64 0] 45 (0, 0)) := hb.box; have hc := fun i => blk_cell hbx i; have hz := fun i => blk_frozen hbx i; have B2 := Aside0.mk (hb.set 1 (.int .i64 v1)); clear hbx hb)
    | (go_at_call 65; ((with_reducible refine (B2.out.name HE2.out HL.out (by omega) HZ.out).mono ?_)); rintro en w14 ⟨rfl, hb⟩; (try clear hc hz); have hbx : w14.heap[w1.heap.size]? = some (.cells #[.int .i64 1, .int .i64 v1, .string ⟨#[]⟩, .string ⟨#[]⟩, .int .i64 0, .int .i64 0, .int .i64 0] 45 (0, 0)) := hb.box; have hc := fun i => blk_cell hbx i; have hz := fun i => blk_frozen hbx i; have B3 := Aside0.mk (hb.set 2 (.string v2)); clear hbx hb)
    | (go_at_call 65; ((with_reducible refine (B3.out.name HE3.out HL.out (by omega) HZ.out).mono ?_)); rintro en w15 ⟨rfl, hb⟩; (try clear hc hz); have hbx : w15.heap[w1.heap.size]? = some (.cells #[.int .i64 1, .int .i64 v1, .string v2, .string ⟨#[]⟩, .int .i64 0, .int .i64 0, .int .i64 0] 45 (0, 0)) := hb.box; have hc := fun i => blk_cell hbx i; have hz := fun i => blk_frozen hbx i; have B4 := Aside0.mk (hb.set 3 (.string v3)); clear hbx hb)
    | (go_at_call 66; ((with_reducible refine (B4.out.int HE4.out HL.out (by omega) HZ.out).mono ?_)); rintro en w16 ⟨rfl, hb⟩; (try clear hc hz); have hbx : w16.heap[w1.heap.size]? = some (.cells #[.int .i64 1, .int .i64 v1, .string v2, .string v3, .int .i64 0, .int .i64 0, .int .i64 0] 45 (0, 0)) := hb.box; have hc := fun i => blk_cell hbx i; have hz := fun i => blk_frozen hbx i; have B5 := Aside0.mk (hb.set 4 (.int .i64 v4)); clear hbx hb)
    | (go_at_call 66; ((with_reducible refine (B5.out.int HE5.out HL.out (by omega) HZ.out).mono ?_)); rintro en w17 ⟨rfl, hb⟩; (try clear hc hz); have hbx : w17.heap[w1.heap.size]? = some (.cells #[.int .i64 1, .int .i64 v1, .string v2, .string v3, .int .i64 v4, .int .i64 0, .int .i64 0] 45 (0, 0)) := hb.box; have hc := fun i => blk_cell hbx i; have hz := fun i => blk_frozen hbx i; have B6 := Aside0.mk (hb.set 5 (.int .i64 v5)); clear hbx hb)
    | (go_at_call 66; ((with_reducible refine (B6.out.int HE6.out HL.out (by omega) HZ.out).mono ?_)); rintro en w18 ⟨rfl, hb⟩; (try clear hc hz); have hbx : w18.heap[w1.heap.size]? = some (.cells #[.int .i64 1, .int .i64 v1, .string v2, .string v3, .int .i64 v4, .int .i64 v5, .int .i64 0] 45 (0, 0)) := hb.box; have hc := fun i => blk_cell hbx i; have hz := fun i => blk_frozen hbx i; have B7 := Aside0.mk (hb.set 6 (.int .i64 v6)); clear hbx hb)
    | (go_at_call 67; ((with_reducible refine (B7.out.done HL.out (by omega) HED.out).mono ?_)); rintro en w30 ⟨rfl, hb⟩; (try clear hc hz); have hbx : w30.heap[w1.heap.size]? = some (.cells #[.int .i64 1, .int .i64 v1, .string v2, .string v3, .int .i64 v4, .int .i64 v5, .int .i64 v6] 45 (0, 0)) := hb.box; have hc := fun i => blk_cell hbx i; have hz := fun i => blk_frozen hbx i; have hrx := hb.res; have hrc := fun i => blk_cell hrx i; have hrz := fun i => blk_frozen hrx i; have BK := Aside0.mk hb.res; have HLow := Aside0.mk hb.low; clear hb hbx hrx))
  refine bodyPost_ret (results_ctt rfl _ _ w.heap.size 45 #[.int .i64 1, .int .i64 v1, .string v2, .string v3, .int .i64 v4, .int .i64 v5, .int .i64 v6] (0, 0) _ rfl (blk_fill7 BK.out _ _ _ _ _ _ _) Tryd.underlying45 rfl (by kernel_rfl)) rfl ?_
  exact OrdIs.mk_ (o := ⟨1, v1, v2, v3, v4, v5, v6⟩) HD.out (low_fill7 HLow.out _ _ _ _ _ _ _)
set_option maxRecDepth 100000 in
set_option maxHeartbeats 8000000 in
theorem ref14o_k1b (s : ByteArray) (w : World) (hs : s.size ≤ 140737488351232) (F : FormS) (x : Int) (hq : readB s = (some F, x)) (td xd : Int) (h1 : 0 < (fieldsB s).length) (h8 : (fieldsB s)[0].f1 = ⟨#[68]⟩) (hd : doneL (asksT (ordSchema 1) (F.mark 35)).2 = (td, xd)) (hxd : xd ≠ 0) :
    Calls Tryd.prog 30 #[.string s] w (OrdIs (orderD s) w) := by
  have HZ : Aside0 (∀ y ∈ fieldsB s, y.f1.size ≤ 512) := ⟨fun y hy => (fieldsB_good s y hy).2.2⟩
  have HR := Aside0.mk (ref_read_walk s (w.alloc (.cells #[.int .i64 0, .int .i64 0, .string ⟨#[]⟩, .string ⟨#[]⟩, .int .i64 0, .int .i64 0, .int .i64 0] 45)) hs)
  have hL : (fieldsB s).length ≤ 1000000 := by have := fieldsB_len s; omega
  obtain ⟨hx, hF, h0, h35, hv35⟩ := readB_some hq
  subst hx
  have HV : Aside0 ((F.vals 35).getD ⟨#[]⟩ = (fieldsB s)[0].f1) := ⟨by rw [hv35]; rfl⟩
  have he0 : F.e = 0 := by rw [hF]; rfl
  rw [hq] at HR
  have BK0 := Aside0.mk (blk_new w (.cells #[.int .i64 0, .int .i64 0, .string ⟨#[]⟩, .string ⟨#[]⟩, .int .i64 0, .int .i64 0, .int .i64 0] 45))
  have HB0 : Aside0 (Below w.heap.size w (w.alloc (.cells #[.int .i64 0, .int .i64 0, .string ⟨#[]⟩, .string ⟨#[]⟩, .int .i64 0, .int .i64 0, .int .i64 0] 45))) := ⟨(Below.refl _ _).alloc (Nat.le_refl _) _⟩
  have hws : (w.alloc (.cells #[.int .i64 0, .int .i64 0, .string ⟨#[]⟩, .string ⟨#[]⟩, .int .i64 0, .int .i64 0, .int .i64 0] 45)).heap.size = w.heap.size + 1 := World.size_alloc _ _
  rw [h8] at HV
  obtain ⟨v1, F1, E1⟩ : ∃ v F', askL (fun s => takeInt s 1 1099511627776) 0 (F.mark 35) 34 = (v, F') := ⟨_, _, rfl⟩
  obtain ⟨v2, F2, E2⟩ : ∃ v F', askL takeName ⟨#[]⟩ F1 11 = (v, F') := ⟨_, _, rfl⟩
  obtain ⟨v3, F3, E3⟩ : ∃ v F', askL takeName ⟨#[]⟩ F2 55 = (v, F') := ⟨_, _, rfl⟩
  obtain ⟨v4, F4, E4⟩ : ∃ v F', askL (fun s => takeInt s 1 2) 0 F3 54 = (v, F') := ⟨_, _, rfl⟩
  obtain ⟨v5, F5, E5⟩ : ∃ v F', askL (fun s => takeInt s 1 1099511627776) 0 F4 38 = (v, F') := ⟨_, _, rfl⟩
  obtain ⟨v6, F6, E6⟩ : ∃ v F', askL (fun s => takeInt s 1 1099511627776) 0 F5 44 = (v, F') := ⟨_, _, rfl⟩
  have ha : asksT (ordSchema 1) (F.mark 35) = ([.n v1, .s v2, .s v3, .n v4, .n v5, .n v6], F6) := by
    rw [show ordSchema 1 = [.int 34 1 1099511627776, .name 11, .name 55, .int 54 1 2, .int 38 1 1099511627776, .int 44 1 1099511627776] from rfl, asksT_int E1, asksT_name E2, asksT_name E3, asksT_int E4, asksT_int E5, asksT_int E6]; rfl
  rw [ha] at hd
  have ED : doneL F6 = (td, xd) := hd
  have hto : takeO ⟨#[68]⟩ F = ((⟨1, v1, v2, v3, v4, v5, v6⟩, 0, 0), F6) := by unfold takeO; rw [show ordKind ⟨#[68]⟩ = 1 from rfl, if_neg (by decide), ha]; rfl
  have HD := Aside0.mk (orderD_undone hq HV.out hto ED hxd)
  have t1 : (xd != 0) = true := by rw [bne_iff_ne]; exact hxd
  have HE1 := Aside0.mk E1
  have HE2 := Aside0.mk E2
  have HE3 := Aside0.mk E3
  have HE4 := Aside0.mk E4
  have HE5 := Aside0.mk E5
  have HE6 := Aside0.mk E6
  have HED := Aside0.mk ED
  clear ha hto hd ED hF hv35 h35 hq E1 E2 E3 E4 E5 E6 hxd
  generalize fieldsB s = L at *
  have HL := Aside0.mk hL
  have H8 := Aside0.mk h8
  have HE0 := Aside0.mk he0
  clear hL h8 he0
  go_enter Tryd.func30, Tryd.ntmps30
  go_wp2_with (first
    | (go_at_call 63; refine HR.out.mono ?_; rintro en w1 ⟨hb1, g, A, c, rfl, hf, hg⟩; rw [hws] at hg; have B0 := Aside0.mk (RefBox.start (w := w) (T := 45) (Z0 := #[.int .i64 0, .int .i64 0, .string ⟨#[]⟩, .string ⟨#[]⟩, .int .i64 0, .int .i64 0, .int .i64 0]) hf (blk_below BK0.out hb1) (HB0.out.trans (hb1.mono HB0.out.size)) (by omega) (Nat.le_refl _)); clear hb1 hf hg HR BK0 HB0 hws)
    | (go_at_call 64; refine (B0.out.kind HL.out (by decide) h1 HE0.out H8.out).mono ?_; rintro en w2 ⟨rfl, hb⟩; have hbx : w2.heap[w1.heap.size]? = some (.cells #[.int .i64 0, .int .i64 0, .string ⟨#[]⟩, .string ⟨#[]⟩, .int .i64 0, .int .i64 0, .int .i64 0] 45 (0, 0)) := hb.box; have hc := fun i => blk_cell hbx i; have hz := fun i => blk_frozen hbx i; have B1 := Aside0.mk (hb.set 0 (.int .i64 1)); clear hb hbx B0)
    | (go_at_call 66; ((with_reducible refine (B1.out.int HE1.out HL.out (by omega) HZ.out).mono ?_)); rintro en w13 ⟨rfl, hb⟩; (try clear hc hz); have hbx : w13.heap[w1.heap.size]? = some (.cells #[.int .i64 1, .int .i64 0, .string ⟨#[]⟩, .string ⟨#[]⟩, .int .i64 0, .int .i64 0, .int .i64 0] 45 (0, 0)) := hb.box; have hc := fun i => blk_cell hbx i; have hz := fun i => blk_frozen hbx i; have B2 := Aside0.mk (hb.set 1 (.int .i64 v1)); clear hbx hb)
    | (go_at_call 65; ((with_reducible refine (B2.out.name HE2.out HL.out (by omega) HZ.out).mono ?_)); rintro en w14 ⟨rfl, hb⟩; (try clear hc hz); have hbx : w14.heap[w1.heap.size]? = some (.cells #[.int .i64 1, .int .i64 v1, .string ⟨#[]⟩, .string ⟨#[]⟩, .int .i64 0, .int .i64 0, .int .i64 0] 45 (0, 0)) := hb.box; have hc := fun i => blk_cell hbx i; have hz := fun i => blk_frozen hbx i; have B3 := Aside0.mk (hb.set 2 (.string v2)); clear hbx hb)
    | (go_at_call 65; ((with_reducible refine (B3.out.name HE3.out HL.out (by omega) HZ.out).mono ?_)); rintro en w15 ⟨rfl, hb⟩; (try clear hc hz); have hbx : w15.heap[w1.heap.size]? = some (.cells #[.int .i64 1, .int .i64 v1, .string v2, .string ⟨#[]⟩, .int .i64 0, .int .i64 0, .int .i64 0] 45 (0, 0)) := hb.box; have hc := fun i => blk_cell hbx i; have hz := fun i => blk_frozen hbx i; have B4 := Aside0.mk (hb.set 3 (.string v3)); clear hbx hb)
    | (go_at_call 66; ((with_reducible refine (B4.out.int HE4.out HL.out (by omega) HZ.out).mono ?_)); rintro en w16 ⟨rfl, hb⟩; (try clear hc hz); have hbx : w16.heap[w1.heap.size]? = some (.cells #[.int .i64 1, .int .i64 v1, .string v2, .string v3, .int .i64 0, .int .i64 0, .int .i64 0] 45 (0, 0)) := hb.box; have hc := fun i => blk_cell hbx i; have hz := fun i => blk_frozen hbx i; have B5 := Aside0.mk (hb.set 4 (.int .i64 v4)); clear hbx hb)
    | (go_at_call 66; ((with_reducible refine (B5.out.int HE5.out HL.out (by omega) HZ.out).mono ?_)); rintro en w17 ⟨rfl, hb⟩; (try clear hc hz); have hbx : w17.heap[w1.heap.size]? = some (.cells #[.int .i64 1, .int .i64 v1, .string v2, .string v3, .int .i64 v4, .int .i64 0, .int .i64 0] 45 (0, 0)) := hb.box; have hc := fun i => blk_cell hbx i; have hz := fun i => blk_frozen hbx i; have B6 := Aside0.mk (hb.set 5 (.int .i64 v5)); clear hbx hb)
    | (go_at_call 66; ((with_reducible refine (B6.out.int HE6.out HL.out (by omega) HZ.out).mono ?_)); rintro en w18 ⟨rfl, hb⟩; (try clear hc hz); have hbx : w18.heap[w1.heap.size]? = some (.cells #[.int .i64 1, .int .i64 v1, .string v2, .string v3, .int .i64 v4, .int .i64 v5, .int .i64 0] 45 (0, 0)) := hb.box; have hc := fun i => blk_cell hbx i; have hz := fun i => blk_frozen hbx i; have B7 := Aside0.mk (hb.set 6 (.int .i64 v6)); clear hbx hb)
    | (go_at_call 67; ((with_reducible refine (B7.out.done HL.out (by omega) HED.out).mono ?_)); rintro en w30 ⟨rfl, hb⟩; (try clear hc hz); have hbx : w30.heap[w1.heap.size]? = some (.cells #[.int .i64 1, .int .i64 v1, .string v2, .string v3, .int .i64 v4, .int .i64 v5, .int .i64 v6] 45 (0, 0)) := hb.box; have hc := fun i => blk_cell hbx i; have hz := fun i => blk_frozen hbx i; have hrx := hb.res; have hrc := fun i => blk_cell hrx i; have hrz := fun i => blk_frozen hrx i; have BK := Aside0.mk hb.res; have HLow := Aside0.mk hb.low; clear hb hbx hrx))
  refine bodyPost_ret (results_ctt rfl _ _ w.heap.size 45 #[.int .i64 0, .int .i64 0, .string ⟨#[]⟩, .string ⟨#[]⟩, .int .i64 0, .int .i64 0, .int .i64 0] (0, 0) _ rfl (blk_fill7 BK.out _ _ _ _ _ _ _) Tryd.underlying45 rfl (by kernel_rfl)) rfl ?_
  exact OrdIs.mk_ (o := zOrd) HD.out (low_fill7 HLow.out _ _ _ _ _ _ _)
set_option maxRecDepth 100000 in
set_option maxHeartbeats 8000000 in
theorem ref14o_k2 (s : ByteArray) (w : World) (hs : s.size ≤ 140737488351232) (F : FormS) (x : Int) (hq : readB s = (some F, x)) (td xd : Int) (h1 : 0 < (fieldsB s).length) (h8 : (fieldsB s)[0].f1 = ⟨#[70]⟩) (hd : doneL (asksT (ordSchema 2) (F.mark 35)).2 = (td, xd)) (hxd : xd = 0) :
    Calls Tryd.prog 30 #[.string s] w (OrdIs (orderD s) w) := by
  have HZ : Aside0 (∀ y ∈ fieldsB s, y.f1.size ≤ 512) := ⟨fun y hy => (fieldsB_good s y hy).2.2⟩
  have HR := Aside0.mk (ref_read_walk s (w.alloc (.cells #[.int .i64 0, .int .i64 0, .string ⟨#[]⟩, .string ⟨#[]⟩, .int .i64 0, .int .i64 0, .int .i64 0] 45)) hs)
  have hL : (fieldsB s).length ≤ 1000000 := by have := fieldsB_len s; omega
  obtain ⟨hx, hF, h0, h35, hv35⟩ := readB_some hq
  subst hx
  have HV : Aside0 ((F.vals 35).getD ⟨#[]⟩ = (fieldsB s)[0].f1) := ⟨by rw [hv35]; rfl⟩
  have he0 : F.e = 0 := by rw [hF]; rfl
  rw [hq] at HR
  have BK0 := Aside0.mk (blk_new w (.cells #[.int .i64 0, .int .i64 0, .string ⟨#[]⟩, .string ⟨#[]⟩, .int .i64 0, .int .i64 0, .int .i64 0] 45))
  have HB0 : Aside0 (Below w.heap.size w (w.alloc (.cells #[.int .i64 0, .int .i64 0, .string ⟨#[]⟩, .string ⟨#[]⟩, .int .i64 0, .int .i64 0, .int .i64 0] 45))) := ⟨(Below.refl _ _).alloc (Nat.le_refl _) _⟩
  have hws : (w.alloc (.cells #[.int .i64 0, .int .i64 0, .string ⟨#[]⟩, .string ⟨#[]⟩, .int .i64 0, .int .i64 0, .int .i64 0] 45)).heap.size = w.heap.size + 1 := World.size_alloc _ _
  rw [h8] at HV
  obtain ⟨v1, F1, E1⟩ : ∃ v F', askL (fun s => takeInt s 1 1099511627776) 0 (F.mark 35) 34 = (v, F') := ⟨_, _, rfl⟩
  obtain ⟨v2, F2, E2⟩ : ∃ v F', askL takeName ⟨#[]⟩ F1 11 = (v, F') := ⟨_, _, rfl⟩
  have ha : asksT (ordSchema 2) (F.mark 35) = ([.n v1, .s v2], F2) := by
    rw [show ordSchema 2 = [.int 34 1 1099511627776, .name 11] from rfl, asksT_int E1, asksT_name E2]; rfl
  rw [ha] at hd
  have ED : doneL F2 = (td, xd) := hd
  have hto : takeO ⟨#[70]⟩ F = ((⟨2, v1, v2, ⟨#[]⟩, 0, 0, 0⟩, 0, 0), F2) := by unfold takeO; rw [show ordKind ⟨#[70]⟩ = 2 from rfl, if_neg (by decide), ha]; rfl
  subst hxd
  have HD := Aside0.mk (orderD_good hq HV.out hto ED)
  have HE1 := Aside0.mk E1
  have HE2 := Aside0.mk E2
  have HED := Aside0.mk ED
  clear ha hto hd ED hF hv35 h35 hq E1 E2
  generalize fieldsB s = L at *
  have HL := Aside0.mk hL
  have H8 := Aside0.mk h8
  have HE0 := Aside0.mk he0
  clear hL h8 he0
  go_enter Tryd.func30, Tryd.ntmps30
  go_wp2_with (first
    | (go_at_call 63; refine HR.out.mono ?_; rintro en w1 ⟨hb1, g, A, c, rfl, hf, hg⟩; rw [hws] at hg; have B0 := Aside0.mk (RefBox.start (w := w) (T := 45) (Z0 := #[.int .i64 0, .int .i64 0, .string ⟨#[]⟩, .string ⟨#[]⟩, .int .i64 0, .int .i64 0, .int .i64 0]) hf (blk_below BK0.out hb1) (HB0.out.trans (hb1.mono HB0.out.size)) (by omega) (Nat.le_refl _)); clear hb1 hf hg HR BK0 HB0 hws)
    | (go_at_call 64; refine (B0.out.kind HL.out (by decide) h1 HE0.out H8.out).mono ?_; rintro en w2 ⟨rfl, hb⟩; have hbx : w2.heap[w1.heap.size]? = some (.cells #[.int .i64 0, .int .i64 0, .string ⟨#[]⟩, .string ⟨#[]⟩, .int .i64 0, .int .i64 0, .int .i64 0] 45 (0, 0)) := hb.box; have hc := fun i => blk_cell hbx i; have hz := fun i => blk_frozen hbx i; have B1 := Aside0.mk (hb.set 0 (.int .i64 2)); clear hb hbx B0)
    | (go_at_call 66; ((with_reducible refine (B1.out.int HE1.out HL.out (by omega) HZ.out).mono ?_)); rintro en w13 ⟨rfl, hb⟩; (try clear hc hz); have hbx : w13.heap[w1.heap.size]? = some (.cells #[.int .i64 2, .int .i64 0, .string ⟨#[]⟩, .string ⟨#[]⟩, .int .i64 0, .int .i64 0, .int .i64 0] 45 (0, 0)) := hb.box; have hc := fun i => blk_cell hbx i; have hz := fun i => blk_frozen hbx i; have B2 := Aside0.mk (hb.set 1 (.int .i64 v1)); clear hbx hb)
    | (go_at_call 65; ((with_reducible refine (B2.out.name HE2.out HL.out (by omega) HZ.out).mono ?_)); rintro en w14 ⟨rfl, hb⟩; (try clear hc hz); have hbx : w14.heap[w1.heap.size]? = some (.cells #[.int .i64 2, .int .i64 v1, .string ⟨#[]⟩, .string ⟨#[]⟩, .int .i64 0, .int .i64 0, .int .i64 0] 45 (0, 0)) := hb.box; have hc := fun i => blk_cell hbx i; have hz := fun i => blk_frozen hbx i; have B3 := Aside0.mk (hb.set 2 (.string v2)); clear hbx hb)
    | (go_at_call 67; ((with_reducible refine (B3.out.done HL.out (by omega) HED.out).mono ?_)); rintro en w30 ⟨rfl, hb⟩; (try clear hc hz); have hbx : w30.heap[w1.heap.size]? = some (.cells #[.int .i64 2, .int .i64 v1, .string v2, .string ⟨#[]⟩, .int .i64 0, .int .i64 0, .int .i64 0] 45 (0, 0)) := hb.box; have hc := fun i => blk_cell hbx i; have hz := fun i => blk_frozen hbx i; have hrx := hb.res; have hrc := fun i => blk_cell hrx i; have hrz := fun i => blk_frozen hrx i; have BK := Aside0.mk hb.res; have HLow := Aside0.mk hb.low; clear hb hbx hrx))
  refine bodyPost_ret (results_ctt rfl _ _ w.heap.size 45 #[.int .i64 2, .int .i64 v1, .string v2, .string ⟨#[]⟩, .int .i64 0, .int .i64 0, .int .i64 0] (0, 0) _ rfl (blk_fill7 BK.out _ _ _ _ _ _ _) Tryd.underlying45 rfl (by kernel_rfl)) rfl ?_
  exact OrdIs.mk_ (o := ⟨2, v1, v2, ⟨#[]⟩, 0, 0, 0⟩) HD.out (low_fill7 HLow.out _ _ _ _ _ _ _)
set_option maxRecDepth 100000 in
set_option maxHeartbeats 8000000 in
theorem ref14o_k2b (s : ByteArray) (w : World) (hs : s.size ≤ 140737488351232) (F : FormS) (x : Int) (hq : readB s = (some F, x)) (td xd : Int) (h1 : 0 < (fieldsB s).length) (h8 : (fieldsB s)[0].f1 = ⟨#[70]⟩) (hd : doneL (asksT (ordSchema 2) (F.mark 35)).2 = (td, xd)) (hxd : xd ≠ 0) :
    Calls Tryd.prog 30 #[.string s] w (OrdIs (orderD s) w) := by
  have HZ : Aside0 (∀ y ∈ fieldsB s, y.f1.size ≤ 512) := ⟨fun y hy => (fieldsB_good s y hy).2.2⟩
  have HR := Aside0.mk (ref_read_walk s (w.alloc (.cells #[.int .i64 0, .int .i64 0, .string ⟨#[]⟩, .string ⟨#[]⟩, .int .i64 0, .int .i64 0, .int .i64 0] 45)) hs)
  have hL : (fieldsB s).length ≤ 1000000 := by have := fieldsB_len s; omega
  obtain ⟨hx, hF, h0, h35, hv35⟩ := readB_some hq
  subst hx
  have HV : Aside0 ((F.vals 35).getD ⟨#[]⟩ = (fieldsB s)[0].f1) := ⟨by rw [hv35]; rfl⟩
  have he0 : F.e = 0 := by rw [hF]; rfl
  rw [hq] at HR
  have BK0 := Aside0.mk (blk_new w (.cells #[.int .i64 0, .int .i64 0, .string ⟨#[]⟩, .string ⟨#[]⟩, .int .i64 0, .int .i64 0, .int .i64 0] 45))
  have HB0 : Aside0 (Below w.heap.size w (w.alloc (.cells #[.int .i64 0, .int .i64 0, .string ⟨#[]⟩, .string ⟨#[]⟩, .int .i64 0, .int .i64 0, .int .i64 0] 45))) := ⟨(Below.refl _ _).alloc (Nat.le_refl _) _⟩
  have hws : (w.alloc (.cells #[.int .i64 0, .int .i64 0, .string ⟨#[]⟩, .string ⟨#[]⟩, .int .i64 0, .int .i64 0, .int .i64 0] 45)).heap.size = w.heap.size + 1 := World.size_alloc _ _
  rw [h8] at HV
  obtain ⟨v1, F1, E1⟩ : ∃ v F', askL (fun s => takeInt s 1 1099511627776) 0 (F.mark 35) 34 = (v, F') := ⟨_, _, rfl⟩
  obtain ⟨v2, F2, E2⟩ : ∃ v F', askL takeName ⟨#[]⟩ F1 11 = (v, F') := ⟨_, _, rfl⟩
  have ha : asksT (ordSchema 2) (F.mark 35) = ([.n v1, .s v2], F2) := by
    rw [show ordSchema 2 = [.int 34 1 1099511627776, .name 11] from rfl, asksT_int E1, asksT_name E2]; rfl
  rw [ha] at hd
  have ED : doneL F2 = (td, xd) := hd
  have hto : takeO ⟨#[70]⟩ F = ((⟨2, v1, v2, ⟨#[]⟩, 0, 0, 0⟩, 0, 0), F2) := by unfold takeO; rw [show ordKind ⟨#[70]⟩ = 2 from rfl, if_neg (by decide), ha]; rfl
  have HD := Aside0.mk (orderD_undone hq HV.out hto ED hxd)
  have t1 : (xd != 0) = true := by rw [bne_iff_ne]; exact hxd
  have HE1 := Aside0.mk E1
  have HE2 := Aside0.mk E2
  have HED := Aside0.mk ED
  clear ha hto hd ED hF hv35 h35 hq E1 E2 hxd
  generalize fieldsB s = L at *
  have HL := Aside0.mk hL
  have H8 := Aside0.mk h8
  have HE0 := Aside0.mk he0
  clear hL h8 he0
  go_enter Tryd.func30, Tryd.ntmps30
  go_wp2_with (first
    | (go_at_call 63; refine HR.out.mono ?_; rintro en w1 ⟨hb1, g, A, c, rfl, hf, hg⟩; rw [hws] at hg; have B0 := Aside0.mk (RefBox.start (w := w) (T := 45) (Z0 := #[.int .i64 0, .int .i64 0, .string ⟨#[]⟩, .string ⟨#[]⟩, .int .i64 0, .int .i64 0, .int .i64 0]) hf (blk_below BK0.out hb1) (HB0.out.trans (hb1.mono HB0.out.size)) (by omega) (Nat.le_refl _)); clear hb1 hf hg HR BK0 HB0 hws)
    | (go_at_call 64; refine (B0.out.kind HL.out (by decide) h1 HE0.out H8.out).mono ?_; rintro en w2 ⟨rfl, hb⟩; have hbx : w2.heap[w1.heap.size]? = some (.cells #[.int .i64 0, .int .i64 0, .string ⟨#[]⟩, .string ⟨#[]⟩, .int .i64 0, .int .i64 0, .int .i64 0] 45 (0, 0)) := hb.box; have hc := fun i => blk_cell hbx i; have hz := fun i => blk_frozen hbx i; have B1 := Aside0.mk (hb.set 0 (.int .i64 2)); clear hb hbx B0)
    | (go_at_call 66; ((with_reducible refine (B1.out.int HE1.out HL.out (by omega) HZ.out).mono ?_)); rintro en w13 ⟨rfl, hb⟩; (try clear hc hz); have hbx : w13.heap[w1.heap.size]? = some (.cells #[.int .i64 2, .int .i64 0, .string ⟨#[]⟩, .string ⟨#[]⟩, .int .i64 0, .int .i64 0, .int .i64 0] 45 (0, 0)) := hb.box; have hc := fun i => blk_cell hbx i; have hz := fun i => blk_frozen hbx i; have B2 := Aside0.mk (hb.set 1 (.int .i64 v1)); clear hbx hb)
    | (go_at_call 65; ((with_reducible refine (B2.out.name HE2.out HL.out (by omega) HZ.out).mono ?_)); rintro en w14 ⟨rfl, hb⟩; (try clear hc hz); have hbx : w14.heap[w1.heap.size]? = some (.cells #[.int .i64 2, .int .i64 v1, .string ⟨#[]⟩, .string ⟨#[]⟩, .int .i64 0, .int .i64 0, .int .i64 0] 45 (0, 0)) := hb.box; have hc := fun i => blk_cell hbx i; have hz := fun i => blk_frozen hbx i; have B3 := Aside0.mk (hb.set 2 (.string v2)); clear hbx hb)
    | (go_at_call 67; ((with_reducible refine (B3.out.done HL.out (by omega) HED.out).mono ?_)); rintro en w30 ⟨rfl, hb⟩; (try clear hc hz); have hbx : w30.heap[w1.heap.size]? = some (.cells #[.int .i64 2, .int .i64 v1, .string v2, .string ⟨#[]⟩, .int .i64 0, .int .i64 0, .int .i64 0] 45 (0, 0)) := hb.box; have hc := fun i => blk_cell hbx i; have hz := fun i => blk_frozen hbx i; have hrx := hb.res; have hrc := fun i => blk_cell hrx i; have hrz := fun i => blk_frozen hrx i; have BK := Aside0.mk hb.res; have HLow := Aside0.mk hb.low; clear hb hbx hrx))
  refine bodyPost_ret (results_ctt rfl _ _ w.heap.size 45 #[.int .i64 0, .int .i64 0, .string ⟨#[]⟩, .string ⟨#[]⟩, .int .i64 0, .int .i64 0, .int .i64 0] (0, 0) _ rfl (blk_fill7 BK.out _ _ _ _ _ _ _) Tryd.underlying45 rfl (by kernel_rfl)) rfl ?_
  exact OrdIs.mk_ (o := zOrd) HD.out (low_fill7 HLow.out _ _ _ _ _ _ _)
set_option maxRecDepth 100000 in
set_option maxHeartbeats 8000000 in
theorem ref14o_k3 (s : ByteArray) (w : World) (hs : s.size ≤ 140737488351232) (F : FormS) (x : Int) (hq : readB s = (some F, x)) (td xd : Int) (h1 : 0 < (fieldsB s).length) (h8 : (fieldsB s)[0].f1 = ⟨#[71]⟩) (hd : doneL (asksT (ordSchema 3) (F.mark 35)).2 = (td, xd)) (hxd : xd = 0) :
    Calls Tryd.prog 30 #[.string s] w (OrdIs (orderD s) w) := by
  have HZ : Aside0 (∀ y ∈ fieldsB s, y.f1.size ≤ 512) := ⟨fun y hy => (fieldsB_good s y hy).2.2⟩
  have HR := Aside0.mk (ref_read_walk s (w.alloc (.cells #[.int .i64 0, .int .i64 0, .string ⟨#[]⟩, .string ⟨#[]⟩, .int .i64 0, .int .i64 0, .int .i64 0] 45)) hs)
  have hL : (fieldsB s).length ≤ 1000000 := by have := fieldsB_len s; omega
  obtain ⟨hx, hF, h0, h35, hv35⟩ := readB_some hq
  subst hx
  have HV : Aside0 ((F.vals 35).getD ⟨#[]⟩ = (fieldsB s)[0].f1) := ⟨by rw [hv35]; rfl⟩
  have he0 : F.e = 0 := by rw [hF]; rfl
  rw [hq] at HR
  have BK0 := Aside0.mk (blk_new w (.cells #[.int .i64 0, .int .i64 0, .string ⟨#[]⟩, .string ⟨#[]⟩, .int .i64 0, .int .i64 0, .int .i64 0] 45))
  have HB0 : Aside0 (Below w.heap.size w (w.alloc (.cells #[.int .i64 0, .int .i64 0, .string ⟨#[]⟩, .string ⟨#[]⟩, .int .i64 0, .int .i64 0, .int .i64 0] 45))) := ⟨(Below.refl _ _).alloc (Nat.le_refl _) _⟩
  have hws : (w.alloc (.cells #[.int .i64 0, .int .i64 0, .string ⟨#[]⟩, .string ⟨#[]⟩, .int .i64 0, .int .i64 0, .int .i64 0] 45)).heap.size = w.heap.size + 1 := World.size_alloc _ _
  rw [h8] at HV
  obtain ⟨v1, F1, E1⟩ : ∃ v F', askL (fun s => takeInt s 1 1099511627776) 0 (F.mark 35) 34 = (v, F') := ⟨_, _, rfl⟩
  obtain ⟨v2, F2, E2⟩ : ∃ v F', askL takeName ⟨#[]⟩ F1 11 = (v, F') := ⟨_, _, rfl⟩
  obtain ⟨v3, F3, E3⟩ : ∃ v F', askL (fun s => takeInt s 1 1099511627776) 0 F2 38 = (v, F') := ⟨_, _, rfl⟩
  obtain ⟨v4, F4, E4⟩ : ∃ v F', askL (fun s => takeInt s 1 1099511627776) 0 F3 44 = (v, F') := ⟨_, _, rfl⟩
  have ha : asksT (ordSchema 3) (F.mark 35) = ([.n v1, .s v2, .n v3, .n v4], F4) := by
    rw [show ordSchema 3 = [.int 34 1 1099511627776, .name 11, .int 38 1 1099511627776, .int 44 1 1099511627776] from rfl, asksT_int E1, asksT_name E2, asksT_int E3, asksT_int E4]; rfl
  rw [ha] at hd
  have ED : doneL F4 = (td, xd) := hd
  have hto : takeO ⟨#[71]⟩ F = ((⟨3, v1, v2, ⟨#[]⟩, 0, v3, v4⟩, 0, 0), F4) := by unfold takeO; rw [show ordKind ⟨#[71]⟩ = 3 from rfl, if_neg (by decide), ha]; rfl
  subst hxd
  have HD := Aside0.mk (orderD_good hq HV.out hto ED)
  have HE1 := Aside0.mk E1
  have HE2 := Aside0.mk E2
  have HE3 := Aside0.mk E3
  have HE4 := Aside0.mk E4
  have HED := Aside0.mk ED
  clear ha hto hd ED hF hv35 h35 hq E1 E2 E3 E4
  generalize fieldsB s = L at *
  have HL := Aside0.mk hL
  have H8 := Aside0.mk h8
  have HE0 := Aside0.mk he0
  clear hL h8 he0
  go_enter Tryd.func30, Tryd.ntmps30
  go_wp2_with (first
    | (go_at_call 63; refine HR.out.mono ?_; rintro en w1 ⟨hb1, g, A, c, rfl, hf, hg⟩; rw [hws] at hg; have B0 := Aside0.mk (RefBox.start (w := w) (T := 45) (Z0 := #[.int .i64 0, .int .i64 0, .string ⟨#[]⟩, .string ⟨#[]⟩, .int .i64 0, .int .i64 0, .int .i64 0]) hf (blk_below BK0.out hb1) (HB0.out.trans (hb1.mono HB0.out.size)) (by omega) (Nat.le_refl _)); clear hb1 hf hg HR BK0 HB0 hws)
    | (go_at_call 64; refine (B0.out.kind HL.out (by decide) h1 HE0.out H8.out).mono ?_; rintro en w2 ⟨rfl, hb⟩; have hbx : w2.heap[w1.heap.size]? = some (.cells #[.int .i64 0, .int .i64 0, .string ⟨#[]⟩, .string ⟨#[]⟩, .int .i64 0, .int .i64 0, .int .i64 0] 45 (0, 0)) := hb.box; have hc := fun i => blk_cell hbx i; have hz := fun i => blk_frozen hbx i; have B1 := Aside0.mk (hb.set 0 (.int .i64 3)); clear hb hbx B0)
    | (go_at_call 66; ((with_reducible refine (B1.out.int HE1.out HL.out (by omega) HZ.out).mono ?_)); rintro en w13 ⟨rfl, hb⟩; (try clear hc hz); have hbx : w13.heap[w1.heap.size]? = some (.cells #[.int .i64 3, .int .i64 0, .string ⟨#[]⟩, .string ⟨#[]⟩, .int .i64 0, .int .i64 0, .int .i64 0] 45 (0, 0)) := hb.box; have hc := fun i => blk_cell hbx i; have hz := fun i => blk_frozen hbx i; have B2 := Aside0.mk (hb.set 1 (.int .i64 v1)); clear hbx hb)
    | (go_at_call 65; ((with_reducible refine (B2.out.name HE2.out HL.out (by omega) HZ.out).mono ?_)); rintro en w14 ⟨rfl, hb⟩; (try clear hc hz); have hbx : w14.heap[w1.heap.size]? = some (.cells #[.int .i64 3, .int .i64 v1, .string ⟨#[]⟩, .string ⟨#[]⟩, .int .i64 0, .int .i64 0, .int .i64 0] 45 (0, 0)) := hb.box; have hc := fun i => blk_cell hbx i; have hz := fun i => blk_frozen hbx i; have B3 := Aside0.mk (hb.set 2 (.string v2)); clear hbx hb)
    | (go_at_call 66; ((with_reducible refine (B3.out.int HE3.out HL.out (by omega) HZ.out).mono ?_)); rintro en w15 ⟨rfl, hb⟩; (try clear hc hz); have hbx : w15.heap[w1.heap.size]? = some (.cells #[.int .i64 3, .int .i64 v1, .string v2, .string ⟨#[]⟩, .int .i64 0, .int .i64 0, .int .i64 0] 45 (0, 0)) := hb.box; have hc := fun i => blk_cell hbx i; have hz := fun i => blk_frozen hbx i; have B4 := Aside0.mk (hb.set 5 (.int .i64 v3)); clear hbx hb)
    | (go_at_call 66; ((with_reducible refine (B4.out.int HE4.out HL.out (by omega) HZ.out).mono ?_)); rintro en w16 ⟨rfl, hb⟩; (try clear hc hz); have hbx : w16.heap[w1.heap.size]? = some (.cells #[.int .i64 3, .int .i64 v1, .string v2, .string ⟨#[]⟩, .int .i64 0, .int .i64 v3, .int .i64 0] 45 (0, 0)) := hb.box; have hc := fun i => blk_cell hbx i; have hz := fun i => blk_frozen hbx i; have B5 := Aside0.mk (hb.set 6 (.int .i64 v4)); clear hbx hb)
    | (go_at_call 67; ((with_reducible refine (B5.out.done HL.out (by omega) HED.out).mono ?_)); rintro en w30 ⟨rfl, hb⟩; (try clear hc hz); have hbx : w30.heap[w1.heap.size]? = some (.cells #[.int .i64 3, .int .i64 v1, .string v2, .string ⟨#[]⟩, .int .i64 0, .int .i64 v3, .int .i64 v4] 45 (0, 0)) := hb.box; have hc := fun i => blk_cell hbx i; have hz := fun i => blk_frozen hbx i; have hrx := hb.res; have hrc := fun i => blk_cell hrx i; have hrz := fun i => blk_frozen hrx i; have BK := Aside0.mk hb.res; have HLow := Aside0.mk hb.low; clear hb hbx hrx))
  refine bodyPost_ret (results_ctt rfl _ _ w.heap.size 45 #[.int .i64 3, .int .i64 v1, .string v2, .string ⟨#[]⟩, .int .i64 0, .int .i64 v3, .int .i64 v4] (0, 0) _ rfl (blk_fill7 BK.out _ _ _ _ _ _ _) Tryd.underlying45 rfl (by kernel_rfl)) rfl ?_
  exact OrdIs.mk_ (o := ⟨3, v1, v2, ⟨#[]⟩, 0, v3, v4⟩) HD.out (low_fill7 HLow.out _ _ _ _ _ _ _)
set_option maxRecDepth 100000 in
set_option maxHeartbeats 8000000 in
theorem ref14o_k3b (s : ByteArray) (w : World) (hs : s.size ≤ 140737488351232) (F : FormS) (x : Int) (hq : readB s = (some F, x)) (td xd : Int) (h1 : 0 < (fieldsB s).length) (h8 : (fieldsB s)[0].f1 = ⟨#[71]⟩) (hd : doneL (asksT (ordSchema 3) (F.mark 35)).2 = (td, xd)) (hxd : xd ≠ 0) :
    Calls Tryd.prog 30 #[.string s] w (OrdIs (orderD s) w) := by
  have HZ : Aside0 (∀ y ∈ fieldsB s, y.f1.size ≤ 512) := ⟨fun y hy => (fieldsB_good s y hy).2.2⟩
  have HR := Aside0.mk (ref_read_walk s (w.alloc (.cells #[.int .i64 0, .int .i64 0, .string ⟨#[]⟩, .string ⟨#[]⟩, .int .i64 0, .int .i64 0, .int .i64 0] 45)) hs)
  have hL : (fieldsB s).length ≤ 1000000 := by have := fieldsB_len s; omega
  obtain ⟨hx, hF, h0, h35, hv35⟩ := readB_some hq
  subst hx
  have HV : Aside0 ((F.vals 35).getD ⟨#[]⟩ = (fieldsB s)[0].f1) := ⟨by rw [hv35]; rfl⟩
  have he0 : F.e = 0 := by rw [hF]; rfl
  rw [hq] at HR
  have BK0 := Aside0.mk (blk_new w (.cells #[.int .i64 0, .int .i64 0, .string ⟨#[]⟩, .string ⟨#[]⟩, .int .i64 0, .int .i64 0, .int .i64 0] 45))
  have HB0 : Aside0 (Below w.heap.size w (w.alloc (.cells #[.int .i64 0, .int .i64 0, .string ⟨#[]⟩, .string ⟨#[]⟩, .int .i64 0, .int .i64 0, .int .i64 0] 45))) := ⟨(Below.refl _ _).alloc (Nat.le_refl _) _⟩
  have hws : (w.alloc (.cells #[.int .i64 0, .int .i64 0, .string ⟨#[]⟩, .string ⟨#[]⟩, .int .i64 0, .int .i64 0, .int .i64 0] 45)).heap.size = w.heap.size + 1 := World.size_alloc _ _
  rw [h8] at HV
  obtain ⟨v1, F1, E1⟩ : ∃ v F', askL (fun s => takeInt s 1 1099511627776) 0 (F.mark 35) 34 = (v, F') := ⟨_, _, rfl⟩
  obtain ⟨v2, F2, E2⟩ : ∃ v F', askL takeName ⟨#[]⟩ F1 11 = (v, F') := ⟨_, _, rfl⟩
  obtain ⟨v3, F3, E3⟩ : ∃ v F', askL (fun s => takeInt s 1 1099511627776) 0 F2 38 = (v, F') := ⟨_, _, rfl⟩
  obtain ⟨v4, F4, E4⟩ : ∃ v F', askL (fun s => takeInt s 1 1099511627776) 0 F3 44 = (v, F') := ⟨_, _, rfl⟩
  have ha : asksT (ordSchema 3) (F.mark 35) = ([.n v1, .s v2, .n v3, .n v4], F4) := by
    rw [show ordSchema 3 = [.int 34 1 1099511627776, .name 11, .int 38 1 1099511627776, .int 44 1 1099511627776] from rfl, asksT_int E1, asksT_name E2, asksT_int E3, asksT_int E4]; rfl
  rw [ha] at hd
  have ED : doneL F4 = (td, xd) := hd
  have hto : takeO ⟨#[71]⟩ F = ((⟨3, v1, v2, ⟨#[]⟩, 0, v3, v4⟩, 0, 0), F4) := by unfold takeO; rw [show ordKind ⟨#[71]⟩ = 3 from rfl, if_neg (by decide), ha]; rfl
  have HD := Aside0.mk (orderD_undone hq HV.out hto ED hxd)
  have t1 : (xd != 0) = true := by rw [bne_iff_ne]; exact hxd
  have HE1 := Aside0.mk E1
  have HE2 := Aside0.mk E2
  have HE3 := Aside0.mk E3
  have HE4 := Aside0.mk E4
  have HED := Aside0.mk ED
  clear ha hto hd ED hF hv35 h35 hq E1 E2 E3 E4 hxd
  generalize fieldsB s = L at *
  have HL := Aside0.mk hL
  have H8 := Aside0.mk h8
  have HE0 := Aside0.mk he0
  clear hL h8 he0
  go_enter Tryd.func30, Tryd.ntmps30
  go_wp2_with (first
    | (go_at_call 63; refine HR.out.mono ?_; rintro en w1 ⟨hb1, g, A, c, rfl, hf, hg⟩; rw [hws] at hg; have B0 := Aside0.mk (RefBox.start (w := w) (T := 45) (Z0 := #[.int .i64 0, .int .i64 0, .string ⟨#[]⟩, .string ⟨#[]⟩, .int .i64 0, .int .i64 0, .int .i64 0]) hf (blk_below BK0.out hb1) (HB0.out.trans (hb1.mono HB0.out.size)) (by omega) (Nat.le_refl _)); clear hb1 hf hg HR BK0 HB0 hws)
    | (go_at_call 64; refine (B0.out.kind HL.out (by decide) h1 HE0.out H8.out).mono ?_; rintro en w2 ⟨rfl, hb⟩; have hbx : w2.heap[w1.heap.size]? = some (.cells #[.int .i64 0, .int .i64 0, .string ⟨#[]⟩, .string ⟨#[]⟩, .int .i64 0, .int .i64 0, .int .i64 0] 45 (0, 0)) := hb.box; have hc := fun i => blk_cell hbx i; have hz := fun i => blk_frozen hbx i; have B1 := Aside0.mk (hb.set 0 (.int .i64 3)); clear hb hbx B0)
    | (go_at_call 66; ((with_reducible refine (B1.out.int HE1.out HL.out (by omega) HZ.out).mono ?_)); rintro en w13 ⟨rfl, hb⟩; (try clear hc hz); have hbx : w13.heap[w1.heap.size]? = some (.cells #[.int .i64 3, .int .i64 0, .string ⟨#[]⟩, .string ⟨#[]⟩, .int .i64 0, .int .i64 0, .int .i64 0] 45 (0, 0)) := hb.box; have hc := fun i => blk_cell hbx i; have hz := fun i => blk_frozen hbx i; have B2 := Aside0.mk (hb.set 1 (.int .i64 v1)); clear hbx hb)
    | (go_at_call 65; ((with_reducible refine (B2.out.name HE2.out HL.out (by omega) HZ.out).mono ?_)); rintro en w14 ⟨rfl, hb⟩; (try clear hc hz); have hbx : w14.heap[w1.heap.size]? = some (.cells #[.int .i64 3, .int .i64 v1, .string ⟨#[]⟩, .string ⟨#[]⟩, .int .i64 0, .int .i64 0, .int .i64 0] 45 (0, 0)) := hb.box; have hc := fun i => blk_cell hbx i; have hz := fun i => blk_frozen hbx i; have B3 := Aside0.mk (hb.set 2 (.string v2)); clear hbx hb)
    | (go_at_call 66; ((with_reducible refine (B3.out.int HE3.out HL.out (by omega) HZ.out).mono ?_)); rintro en w15 ⟨rfl, hb⟩; (try clear hc hz); have hbx : w15.heap[w1.heap.size]? = some (.cells #[.int .i64 3, .int .i64 v1, .string v2, .string ⟨#[]⟩, .int .i64 0, .int .i64 0, .int .i64 0] 45 (0, 0)) := hb.box; have hc := fun i => blk_cell hbx i; have hz := fun i => blk_frozen hbx i; have B4 := Aside0.mk (hb.set 5 (.int .i64 v3)); clear hbx hb)
    | (go_at_call 66; ((with_reducible refine (B4.out.int HE4.out HL.out (by omega) HZ.out).mono ?_)); rintro en w16 ⟨rfl, hb⟩; (try clear hc hz); have hbx : w16.heap[w1.heap.size]? = some (.cells #[.int .i64 3, .int .i64 v1, .string v2, .string ⟨#[]⟩, .int .i64 0, .int .i64 v3, .int .i64 0] 45 (0, 0)) := hb.box; have hc := fun i => blk_cell hbx i; have hz := fun i => blk_frozen hbx i; have B5 := Aside0.mk (hb.set 6 (.int .i64 v4)); clear hbx hb)
    | (go_at_call 67; ((with_reducible refine (B5.out.done HL.out (by omega) HED.out).mono ?_)); rintro en w30 ⟨rfl, hb⟩; (try clear hc hz); have hbx : w30.heap[w1.heap.size]? = some (.cells #[.int .i64 3, .int .i64 v1, .string v2, .string ⟨#[]⟩, .int .i64 0, .int .i64 v3, .int .i64 v4] 45 (0, 0)) := hb.box; have hc := fun i => blk_cell hbx i; have hz := fun i => blk_frozen hbx i; have hrx := hb.res; have hrc := fun i => blk_cell hrx i; have hrz := fun i => blk_frozen hrx i; have BK := Aside0.mk hb.res; have HLow := Aside0.mk hb.low; clear hb hbx hrx))
  refine bodyPost_ret (results_ctt rfl _ _ w.heap.size 45 #[.int .i64 0, .int .i64 0, .string ⟨#[]⟩, .string ⟨#[]⟩, .int .i64 0, .int .i64 0, .int .i64 0] (0, 0) _ rfl (blk_fill7 BK.out _ _ _ _ _ _ _) Tryd.underlying45 rfl (by kernel_rfl)) rfl ?_
  exact OrdIs.mk_ (o := zOrd) HD.out (low_fill7 HLow.out _ _ _ _ _ _ _)
set_option maxRecDepth 100000 in
set_option maxHeartbeats 8000000 in
theorem ref14o_zero (s : ByteArray) (w : World) (hs : s.size ≤ 140737488351232) (F : FormS) (x : Int) (hq : readB s = (some F, x)) (h1 : 0 < (fieldsB s).length) (v : ByteArray) (h8 : (fieldsB s)[0].f1 = v) (hk : ordKind v = 0) :
    Calls Tryd.prog 30 #[.string s] w (OrdIs (orderD s) w) := by
  have HZ : Aside0 (∀ y ∈ fieldsB s, y.f1.size ≤ 512) := ⟨fun y hy => (fieldsB_good s y hy).2.2⟩
  have HR := Aside0.mk (ref_read_walk s (w.alloc (.cells #[.int .i64 0, .int .i64 0, .string ⟨#[]⟩, .string ⟨#[]⟩, .int .i64 0, .int .i64 0, .int .i64 0] 45)) hs)
  have hL : (fieldsB s).length ≤ 1000000 := by have := fieldsB_len s; omega
  obtain ⟨hx, hF, h0, h35, hv35⟩ := readB_some hq
  subst hx
  have HV : Aside0 ((F.vals 35).getD ⟨#[]⟩ = (fieldsB s)[0].f1) := ⟨by rw [hv35]; rfl⟩
  have he0 : F.e = 0 := by rw [hF]; rfl
  rw [hq] at HR
  have BK0 := Aside0.mk (blk_new w (.cells #[.int .i64 0, .int .i64 0, .string ⟨#[]⟩, .string ⟨#[]⟩, .int .i64 0, .int .i64 0, .int .i64 0] 45))
  have HB0 : Aside0 (Below w.heap.size w (w.alloc (.cells #[.int .i64 0, .int .i64 0, .string ⟨#[]⟩, .string ⟨#[]⟩, .int .i64 0, .int .i64 0, .int .i64 0] 45))) := ⟨(Below.refl _ _).alloc (Nat.le_refl _) _⟩
  have hws : (w.alloc (.cells #[.int .i64 0, .int .i64 0, .string ⟨#[]⟩, .string ⟨#[]⟩, .int .i64 0, .int .i64 0, .int .i64 0] 45)).heap.size = w.heap.size + 1 := World.size_alloc _ _
  rw [h8] at HV
  have hto : takeO v F = ((zOrd, 35, 120), F.mark 35) := by unfold takeO; rw [if_pos hk]
  have HD := Aside0.mk (orderD_bad hq HV.out hto (by decide))
  have hne : v ≠ ⟨#[68]⟩ ∧ v ≠ ⟨#[70]⟩ ∧ v ≠ ⟨#[71]⟩ := by
    unfold ordKind at hk
    refine ⟨fun e => ?_, fun e => ?_, fun e => ?_⟩ <;> subst e <;> exact absurd hk (by decide)
  have hn : ∀ b : UInt8, v ≠ ⟨#[b]⟩ → (v.toList == [b]) = false := fun b h => by
    rw [ByteArray.toList_eq, beq_eq_false_iff_ne]
    exact fun e => h (ba_ext e)
  have n1 := hn 68 hne.1
  have n2 := hn 70 hne.2.1
  have n3 := hn 71 hne.2.2
  clear hF hv35 h35 hq hk hne hn hto
  generalize fieldsB s = L at *
  have HL := Aside0.mk hL
  have H8 := Aside0.mk h8
  have HE0 := Aside0.mk he0
  clear hL h8 he0
  go_enter Tryd.func30, Tryd.ntmps30
  go_wp2_with (first
    | (go_at_call 63; refine HR.out.mono ?_; rintro en w1 ⟨hb1, g, A, c, rfl, hf, hg⟩; rw [hws] at hg; have B0 := Aside0.mk (RefBox.start (w := w) (T := 45) (Z0 := #[.int .i64 0, .int .i64 0, .string ⟨#[]⟩, .string ⟨#[]⟩, .int .i64 0, .int .i64 0, .int .i64 0]) hf (blk_below BK0.out hb1) (HB0.out.trans (hb1.mono HB0.out.size)) (by omega) (Nat.le_refl _)); clear hb1 hf hg HR BK0 HB0 hws)
    | (go_at_call 64; refine (B0.out.kind HL.out (by decide) h1 HE0.out H8.out).mono ?_; rintro en w2 ⟨rfl, hb⟩; have hcr := fun i => blk_cell hb.res i; have hfr := fun i => blk_frozen hb.res i; have BK := Aside0.mk hb.res; have HLow := Aside0.mk hb.low; clear hb B0))
  refine bodyPost_ret (results_ctt rfl _ _ w.heap.size 45 #[.int .i64 0, .int .i64 0, .string ⟨#[]⟩, .string ⟨#[]⟩, .int .i64 0, .int .i64 0, .int .i64 0] (0, 0) _ rfl (blk_fill7 BK.out _ _ _ _ _ _ _) Tryd.underlying45 rfl (by kernel_rfl)) rfl ?_
  exact OrdIs.mk_ (o := zOrd) HD.out (low_fill7 HLow.out _ _ _ _ _ _ _)
theorem ref14o_walk (s : ByteArray) (w : World) (hs : s.size ≤ 140737488351232) : Calls Tryd.prog 30 #[.string s] w (OrdIs (orderD s) w) := by
  rcases hr : readB s with ⟨F, x⟩
  cases F with
  | none =>
    refine ref14o_none s w hs x hr ?_
    intro e
    subst e
    unfold readB at hr
    split at hr
    · rename_i g; simp only [Prod.mk.injEq, true_and] at hr; omega
    split at hr
    · simp at hr
    split at hr <;> simp at hr
  | some F =>
    obtain ⟨_, _, h0, _, _⟩ := readB_some hr
    by_cases c1 : (fieldsB s)[0].f1 = ⟨#[68]⟩
    · by_cases hx : (doneL (asksT (ordSchema 1) (F.mark 35)).2).2 = 0
      · exact ref14o_k1 s w hs F x hr _ _ h0 c1 rfl hx
      · exact ref14o_k1b s w hs F x hr _ _ h0 c1 rfl hx
    by_cases c2 : (fieldsB s)[0].f1 = ⟨#[70]⟩
    · by_cases hx : (doneL (asksT (ordSchema 2) (F.mark 35)).2).2 = 0
      · exact ref14o_k2 s w hs F x hr _ _ h0 c2 rfl hx
      · exact ref14o_k2b s w hs F x hr _ _ h0 c2 rfl hx
    by_cases c3 : (fieldsB s)[0].f1 = ⟨#[71]⟩
    · by_cases hx : (doneL (asksT (ordSchema 3) (F.mark 35)).2).2 = 0
      · exact ref14o_k3 s w hs F x hr _ _ h0 c3 rfl hx
      · exact ref14o_k3b s w hs F x hr _ _ h0 c3 rfl hx
    exact ref14o_zero s w hs F x hr h0 _ rfl (by unfold ordKind; rw [if_neg c1, if_neg c2, if_neg c3])
end Go.Proofs.YtgfigkfcmkdjdaaDoor.B
end
