/- The functions that the law reaches, as plain Lean functions, and their contracts: texts merged. -/
import Derived.Laws.StructEq
import Derived.Test.YtgfigkfcmkdjdaaGreatDoorzAskEncodes2
import Derived.Test.YtgfigkfcmkdjdaaGreatDoorzAskEncodes0
import Derived.Test.YtgfigkfcmkdjdaaGreatDoorzAskEncodes1
import Derived.Test.YtgfigkfcmkdjdaaGreatDoorzAskEncodes3
import Derived.Test.YtgfigkfcmkdjdaaGreatDoorzAskEncodes4
import Derived.Test.YtgfigkfcmkdjdaaGreatDoorzAskEncodes5
import Derived.Test.YtgfigkfcmkdjdaaGreatDoorzAskEncodes6
import Derived.Test.YtgfigkfcmkdjdaaGreatDoorzAskEncodes7
import Derived.Test.YtgfigkfcmkdjdaaGreatDoorzAskEncodes8
import Derived.Test.YtgfigkfcmkdjdaaGreatDoorzAskEncodes9
import Derived.Test.YtgfigkfcmkdjdaaGreatDoorzAskEncodes10
import Derived.Test.YtgfigkfcmkdjdaaGreatDoorzAskEncodes11
import Derived.Test.YtgfigkfcmkdjdaaGreatDoorzAskEncodes12
import Derived.Test.YtgfigkfcmkdjdaaGreatDoorzAskEncodes13
import Derived.Test.YtgfigkfcmkdjdaaGreatDoorzAskEncodes14
import Derived.Test.YtgfigkfcmkdjdaaGreatDoorzAskEncodes15
import Derived.Test.YtgfigkfcmkdjdaaGreatDoorzAskEncodes16
import Derived.Test.YtgfigkfcmkdjdaaGreatDoorzAskEncodes17
import Derived.Test.YtgfigkfcmkdjdaaGreatDoorzAskEncodes18
import Derived.Test.YtgfigkfcmkdjdaaGreatDoorzAskEncodes19
import Derived.Test.YtgfigkfcmkdjdaaGreatDoorzAskEncodes20
import Derived.Test.YtgfigkfcmkdjdaaGreatDoorzAskEncodes21
import Derived.Test.YtgfigkfcmkdjdaaGreatDoorzAskEncodes22
section
namespace Go.Proofs.YtgfigkfcmkdjdaaGreatDoor.B
open Go.RowKit Go.Proofs.YtgfigkfcmkdjdaaGreatDoorW.PrintWords Go.Proofs.YtgfigkfcmkdjdaaGreatDoorW.PrintLast Go.Proofs.YtgfigkfcmkdjdaaGreatDoorW.PrintMore
attribute [local go_sem] max2_int min2_int max_two min_two max_three min_three max_four min_four   -- for this text's walks alone
set_option linter.unusedVariables false
set_option linter.unusedSimpArgs false
theorem good_small (l : List S74) (h : ∀ x ∈ l, x.f1.size ≤ 9223372036854775807) : smallF l = true := by
  unfold smallF
  rw [List.all_eq_true]
  intro x hx
  rw [decide_eq_true_eq]
  exact h x hx
theorem encode_f (a : AskV) (h1 : a.f1.size ≤ 9223372036854775807) (h2 : a.f2.size ≤ 9223372036854775807) (h3 : a.f3.size ≤ 9223372036854775807) (h4 : a.f4.size ≤ 9223372036854775807) : ask_Encode.f a.f0 a.f1 a.f2 a.f3 a.f4 a.f5 a.f6 a.f7 a.f8 a.f9 a.f10 a.f11 a.f12 a.f13 = some (encA a) := by
  unfold ask_Encode.f
  rw [show ask_Right.f a.f0 a.f1 a.f2 a.f3 a.f4 a.f5 a.f6 a.f7 a.f8 a.f9 a.f10 a.f11 a.f12 a.f13 = some (decide (RightA a)) from by unfold ask_Right.f; rw [if_pos ⟨h1, h2, h3, h4⟩]]
  simp only [Option.bind_some, decide_eq_true_eq]
  by_cases c : RightA a
  · rw [if_pos c]
    have hn := rightA_nums a c
    have hg : ∀ f ∈ (askF a).map pairF, valueL f.2 = true ∨ True := fun _ _ => .inr trivial
    have hff : ask_fields.f a.f0 a.f1 a.f2 a.f3 a.f4 a.f5 a.f6 a.f7 a.f8 a.f9 a.f10 a.f11 a.f12 a.f13 = some (askF a) := by unfold ask_fields.f; rw [if_pos hn]
    have hsm : smallF (askF a) = true := good_small _ (fun x hx => by
      have hb : ∀ n, i63 n → (digitsB n).size ≤ 9223372036854775807 := fun n h => by have := digitsB_20 n h.2; omega
      have hj := join_len a.f13 hn.2.2
      have hl := hn.2.1
      have hnb : (numsB a.f13).size ≤ 9223372036854775807 := by
        unfold numsB joinB
        rw [sz_lit]
        show (Lib.join ((a.f13.map digitsB).map (·.data.toList)) [44]).length ≤ _
        omega
      have hw : (askKindW a.f0).size ≤ 9223372036854775807 := by
        unfold askKindW
        repeat' split
        all_goals decide
      obtain ⟨i5, i6, i7, i8, i9, i10, i11, i12⟩ := hn.1
      unfold askF at hx
      split at hx
      · rcases List.mem_append.1 hx with hx | hx
        · simp only [List.mem_cons, List.not_mem_nil, or_false] at hx
          rcases hx with rfl | rfl | rfl | rfl | rfl | rfl | rfl | rfl | rfl | rfl
          · exact hw
          · exact h1
          · exact h3
          · exact h4
          · exact hb _ i5
          · exact hb _ i6
          · exact hb _ i7
          · exact hb _ i8
          · exact hb _ i9
          · exact hb _ i10
        · split at hx
          · rw [List.mem_singleton.1 hx]; exact hnb
          split at hx
          · rw [List.mem_singleton.1 hx]; exact hb _ i11
          split at hx
          · rw [List.mem_singleton.1 hx]; exact hb _ i12
          · exact absurd hx List.not_mem_nil
      split at hx
      · simp only [List.mem_cons, List.not_mem_nil, or_false] at hx
        rcases hx with rfl | rfl | rfl | rfl | rfl | rfl
        · exact hw
        · exact h1
        · exact h2
        · exact hb _ i6
        · exact hb _ i7
        · exact hb _ i10
      · simp only [List.mem_cons, List.not_mem_nil, or_false] at hx
        rcases hx with rfl | rfl | rfl
        · exact hw
        · exact h1
        · exact h2)
    have htf : tag_Forms.f (askF a) = some (encA a) := by
      unfold tag_Forms.f
      rw [if_pos hsm, ask_form a c, encA_right a c]; rfl
    rw [hff]
    simp only [Option.bind_some]
    rw [htf]; rfl
  · rw [if_neg c, encA_wrong a c]
theorem spareL_all_a (asked : Int → Bool) : ∀ l : List Int, (∀ t ∈ l, asked t = true) → spareL asked l = (0, 0)
  | [], _ => rfl
  | t :: r, h => by rw [spareL_cons, if_pos (h t (by simp)), spareL_all_a asked r (fun x hx => h x (by simp [hx]))]
structure AskOk (a : AskV) : Prop where
  form : allFormsL ((askF a).map pairF) = ((((askF a).map pairF).map fieldL).flatten, 0)
  back : askD ⟨((((askF a).map pairF).map fieldL).flatten).toArray⟩ = (a, 0, 0)
theorem read_of_a (L : List S74) (hlen : L.length ≤ 64) (hg : ∀ f ∈ L.map pairF, goodF f) (hn : (tagsOf L).Nodup) (h0 : 0 < L.length) (h35 : (rd_T74 L 0).f0 = 35) :
    allFormsL (L.map pairF) = (((L.map pairF).map fieldL).flatten, 0) ∧ readB ⟨(((L.map pairF).map fieldL).flatten).toArray⟩ = (some (formOf L), 0) := by
  have hf := allFormsL_good _ (by rw [List.length_map]; exact hlen) hg
  have hr := readB_formed L hn h0 h35 (fun x hx => by have := (hg (pairF x) (List.mem_map_of_mem hx)).1; unfold pairF at this; simp only at this; omega) (by rw [hf])
  rw [hf] at hr
  exact ⟨hf, hr⟩
theorem ask_ok_2 (i tg : ByteArray) (n_i : nameL i.data.toList 0 = true) (n_tg : nameL tg.data.toList 0 = true) : AskOk ⟨2, i, tg, ⟨#[]⟩, ⟨#[]⟩, 0, 0, 0, 0, 0, 0, 0, 0, []⟩ := by
  have eL : askF ⟨2, i, tg, ⟨#[]⟩, ⟨#[]⟩, 0, 0, 0, 0, 0, 0, 0, 0, []⟩ = [⟨35, ⟨#[70]⟩⟩, ⟨11, i⟩, ⟨41, tg⟩] := rfl
  obtain ⟨hf, hr⟩ := read_of_a (askF ⟨2, i, tg, ⟨#[]⟩, ⟨#[]⟩, 0, 0, 0, 0, 0, 0, 0, 0, []⟩) (by rw [eL]; simp) (by
    rw [eL]
    simp only [List.map_cons, List.map_nil, pairF, List.forall_mem_cons]
    exact ⟨goodF_one 35 70 (by decide) (by decide) (by decide) (by decide), goodF_name 11 i (by decide) (by decide) n_i, goodF_name 41 tg (by decide) (by decide) n_tg, fun _ h => absurd h List.not_mem_nil⟩) (by rw [eL]; show List.Nodup [35, 11, 41]; decide) (by rw [eL]; simp) (by rw [eL]; rfl)
  have hv : ((formOf (askF ⟨2, i, tg, ⟨#[]⟩, ⟨#[]⟩, 0, 0, 0, 0, 0, 0, 0, 0, []⟩)).vals 35).getD ⟨#[]⟩ = ⟨#[70]⟩ := by rw [eL]; rfl
  generalize hF0 : formOf (askF ⟨2, i, tg, ⟨#[]⟩, ⟨#[]⟩, 0, 0, 0, 0, 0, 0, 0, 0, []⟩) = F0 at *
  have h0e : F0.e = 0 := by rw [← hF0]; rfl
  have hx1 : F0.vals 11 = some (i) := by rw [← hF0, eL]; rfl
  have hx2 : F0.vals 41 = some (tg) := by rw [← hF0, eL]; rfl
  obtain ⟨G0, hG0⟩ : ∃ G, F0.mark 35 = G := ⟨_, rfl⟩
  have ge0 : G0.e = 0 := by rw [← hG0]; exact h0e
  have gv0 : G0.vals = F0.vals := by rw [← hG0]; exact rfl
  have go0 : G0.order = F0.order := by rw [← hG0]; exact rfl
  have ga0 : ∀ x, G0.asked x = if x = 35 then true else F0.asked x := by rw [← hG0]; intro x; rfl
  have E1 := ask_name_ok (F := G0) (t := 11) ge0 (by rw [gv0]; exact hx1) n_i
  obtain ⟨G1, hG1⟩ : ∃ G, G0.mark 11 = G := ⟨_, rfl⟩
  rw [hG1] at E1
  have ge1 : G1.e = 0 := by rw [← hG1]; exact ge0
  have gv1 : G1.vals = F0.vals := by rw [← hG1]; exact gv0
  have go1 : G1.order = F0.order := by rw [← hG1]; exact go0
  have ga1 : ∀ x, G1.asked x = if x = 11 then true else G0.asked x := by rw [← hG1]; intro x; rfl
  have E2 := ask_name_ok (F := G1) (t := 41) ge1 (by rw [gv1]; exact hx2) n_tg
  obtain ⟨G2, hG2⟩ : ∃ G, G1.mark 41 = G := ⟨_, rfl⟩
  rw [hG2] at E2
  have ge2 : G2.e = 0 := by rw [← hG2]; exact ge1
  have gv2 : G2.vals = F0.vals := by rw [← hG2]; exact gv1
  have go2 : G2.order = F0.order := by rw [← hG2]; exact go1
  have ga2 : ∀ x, G2.asked x = if x = 41 then true else G1.asked x := by rw [← hG2]; intro x; rfl
  have hta : takeA 2 (F0.mark 35) = (⟨2, i, tg, ⟨#[]⟩, ⟨#[]⟩, 0, 0, 0, 0, 0, 0, 0, 0, []⟩, G2) := by
    rw [hG0]
    unfold takeA
    rw [if_neg (by decide), if_neg (by decide), show askBare = [.name 11, .name 41] from rfl, asksT_name E1, asksT_name E2]
    rfl
  have hd : (doneL G2).2 = 0 := by
    have ho : G2.order = [35, 11, 41] := by rw [go2, ← hF0, eL]; rfl
    rw [doneL_ok ge2]
    rw [ho]
    refine spareL_all_a _ _ ?_
    simp only [List.forall_mem_cons]
    exact ⟨by rw [ga2, if_neg (by decide), ga1, if_neg (by decide), ga0, if_pos rfl], by rw [ga2, if_neg (by decide), ga1, if_pos rfl], by rw [ga2, if_pos rfl], fun _ h => absurd h List.not_mem_nil⟩
  exact ⟨hf, askD_good (k := 2) hr hv rfl (by decide) hta hd (by unfold wholeA; rw [if_neg (by show ¬ (2 : Int) = 1; decide)])⟩
theorem decode_f (s : ByteArray) (h : s.size ≤ 140737488351232) : ask_Decode.f s = some (flatA (askD s)) := by unfold ask_Decode.f; rw [if_pos h]
def aw12 : AskV := ⟨2, ⟨#[98]⟩, ⟨#[97]⟩, ⟨#[]⟩, ⟨#[]⟩, 0, 0, 0, 0, 0, 0, 0, 0, []⟩
theorem one_name_a (b : UInt8) (h : b.toNat < 128) (hm : mayN b.toNat = true) : nameL (⟨#[b]⟩ : ByteArray).data.toList 0 = true := by
  show nameL [b] 0 = true
  rw [nameL_go [b] (by simp) 0 (by decide) (by rw [dec_ascii b [] h]; exact hm), dec_ascii b [] h]
  show nameL [] 1 = true
  rw [nameL_nil]; rfl
theorem aw12_right : RightA aw12 := ⟨⟨by decide, by decide⟩, one_name_a 98 (by decide) (by decide), .inr ⟨by decide, one_name_a 97 (by decide) (by decide), ⟨rfl, rfl, rfl, rfl, rfl, rfl, rfl, rfl⟩, .inr ⟨by decide, rfl, rfl, rfl⟩⟩⟩
theorem aw12_text : encA aw12 = (⟨#[51, 53, 61, 70, 1, 49, 49, 61, 98, 1, 52, 49, 61, 97, 1]⟩, 0) := by
  rw [encA_right _ aw12_right]
  have eL : askF aw12 = [⟨35, ⟨#[70]⟩⟩, ⟨11, ⟨#[98]⟩⟩, ⟨41, ⟨#[97]⟩⟩] := rfl
  rw [eL]
  simp only [List.map_cons, List.map_nil, pairF, fieldL]
  rw [show (35 : Int).toNat = 35 from rfl, show (11 : Int).toNat = 11 from rfl, show (41 : Int).toNat = 41 from rfl, dg35, dg11, dg41]
  rfl
theorem aw12_f : spigotlaw12_awake.f = some true := by
  have hb : askD (encA aw12).1 = (aw12, 0, 0) := by
    rw [encA_right aw12 aw12_right]
    exact (ask_ok_2 ⟨#[98]⟩ ⟨#[97]⟩ (one_name_a 98 (by decide) (by decide)) (one_name_a 97 (by decide) (by decide))).back
  have e1 := encode_f aw12 (by decide) (by decide) (by decide) (by decide)
  rw [aw12_text] at e1 hb
  have e2 := (decode_f (⟨#[51, 53, 61, 70, 1, 49, 49, 61, 98, 1, 52, 49, 61, 97, 1]⟩ : ByteArray) (by decide)).trans (by rw [hb])
  unfold spigotlaw12_awake.f
  rw [show ask_Encode.f 2 (⟨#[98]⟩ : ByteArray) (⟨#[97]⟩ : ByteArray) (⟨#[]⟩ : ByteArray) (⟨#[]⟩ : ByteArray) 0 0 0 0 0 0 0 0 ([] : List Int) = _ from e1]
  simp only [Option.bind_some]
  rw [e2]
  simp only [Option.bind_some]
  rw [if_pos (by rw [ByteArray.toList_eq])]
  simp only [flatA, aw12, if_true]
  rw [ByteArray.toList_eq]; rfl
def TrueW (w : World) (e : Ending) (w' : World) : Prop := e = .returned (.bool true) ∧ Below w.heap.size w w'
theorem plain_any (a : AskV) (A : Option Addr) (c : Nat) (w : World) : Calls Tryz.prog 9 #[.agg #[.int .i64 a.f0, .string a.f1, .string a.f2, .string a.f3, .string a.f4, .int .i64 a.f5, .int .i64 a.f6, .int .i64 a.f7, .int .i64 a.f8, .int .i64 a.f9, .int .i64 a.f10, .int .i64 a.f11, .int .i64 a.f12, .slice A a.f13.length c]] w fun e w' => e = .returned (.agg #[.int .i64 a.f0, .string a.f1, .string a.f2, .string a.f3, .string a.f4, .int .i64 a.f5, .int .i64 a.f6, .int .i64 a.f7, .int .i64 a.f8, .int .i64 a.f9, .int .i64 a.f10, .int .i64 a.f11, .int .i64 a.f12, .slice A a.f13.length c]) ∧ Below w.heap.size w w' := by
  have HB0 := Aside0.mk (Below.refl w.heap.size w)
  go_enter Tryz.func9, Tryz.ntmps9
  go_wp2_with (first
    | ((with_reducible refine gate_dst (N := 1) rfl ?_); refine box_event ?hg (N := 1) ?hd (cs := #[.int .i64 a.f0, .string a.f1, .string a.f2, .string a.f3, .string a.f4, .int .i64 a.f5, .int .i64 a.f6, .int .i64 a.f7, .int .i64 a.f8, .int .i64 a.f9, .int .i64 a.f10, .int .i64 a.f11, .int .i64 a.f12, .slice A a.f13.length c]) (t := 24) ?hr ?_; (case hd => rfl); (case hg => rfl); (case hr => first | (go_simp; done) | (go_simp; rfl)); intro g1 hg w3 hbox hb; have K1 := Aside0.mk hbox; have L1 := Aside0.mk (HB0.out.trans (hb.mono HB0.out.size)); clear hb hbox hg HB0)
    | ((with_reducible refine gate_dst (N := 2) rfl ?_); refine box_event ?hg (N := 2) ?hd (cs := #[.int .i64 0, .string ⟨#[]⟩, .string ⟨#[]⟩, .string ⟨#[]⟩, .string ⟨#[]⟩, .int .i64 0, .int .i64 0, .int .i64 0, .int .i64 0, .int .i64 0, .int .i64 0, .int .i64 0, .int .i64 0, .slice none 0 0]) (t := 32) ?hr ?_; (case hd => rfl); (case hg => rfl); (case hr => first | (go_simp; done) | (go_simp; rfl)); intro g2 hg w4 hbox hb; have K2 := Aside0.mk hbox; have K1b := Aside0.mk (blk_below K1.out hb); have L2 := Aside0.mk (L1.out.trans (hb.mono L1.out.size)); have G2 : Aside0 (w.heap.size ≤ g2) := ⟨by rw [hg]; exact L1.out.size⟩; have NE : g1 ≠ g2 := (by rw [hg]; exact Nat.ne_of_lt (blk_lt K1.out)); have NE' : g2 ≠ g1 := Ne.symm NE; clear hb hbox hg; have hx0 : w4.cell? ⟨g1, 0, none⟩ = some (.int .i64 a.f0) := (blk_cell K1b.out 0).trans rfl; have hx1 : w4.cell? ⟨g1, 1, none⟩ = some (.string a.f1) := (blk_cell K1b.out 1).trans rfl; have hx2 : w4.cell? ⟨g1, 2, none⟩ = some (.string a.f2) := (blk_cell K1b.out 2).trans rfl; have hx3 : w4.cell? ⟨g1, 3, none⟩ = some (.string a.f3) := (blk_cell K1b.out 3).trans rfl; have hx4 : w4.cell? ⟨g1, 4, none⟩ = some (.string a.f4) := (blk_cell K1b.out 4).trans rfl; have hx5 : w4.cell? ⟨g1, 5, none⟩ = some (.int .i64 a.f5) := (blk_cell K1b.out 5).trans rfl; have hx6 : w4.cell? ⟨g1, 6, none⟩ = some (.int .i64 a.f6) := (blk_cell K1b.out 6).trans rfl; have hx7 : w4.cell? ⟨g1, 7, none⟩ = some (.int .i64 a.f7) := (blk_cell K1b.out 7).trans rfl; have hx8 : w4.cell? ⟨g1, 8, none⟩ = some (.int .i64 a.f8) := (blk_cell K1b.out 8).trans rfl; have hx9 : w4.cell? ⟨g1, 9, none⟩ = some (.int .i64 a.f9) := (blk_cell K1b.out 9).trans rfl; have hx10 : w4.cell? ⟨g1, 10, none⟩ = some (.int .i64 a.f10) := (blk_cell K1b.out 10).trans rfl; have hx11 : w4.cell? ⟨g1, 11, none⟩ = some (.int .i64 a.f11) := (blk_cell K1b.out 11).trans rfl; have hx12 : w4.cell? ⟨g1, 12, none⟩ = some (.int .i64 a.f12) := (blk_cell K1b.out 12).trans rfl; have hx13 : w4.cell? ⟨g1, 13, none⟩ = some (.slice A a.f13.length c) := (blk_cell K1b.out 13).trans rfl; have hy0 : w4.cell? ⟨g2, 0, none⟩ = some (.int .i64 0) := (blk_cell K2.out 0).trans rfl; have hyz0 := blk_frozen K2.out 0; have hy1 : w4.cell? ⟨g2, 1, none⟩ = some (.string ⟨#[]⟩) := (blk_cell K2.out 1).trans rfl; have hyz1 := blk_frozen K2.out 1; have hy2 : w4.cell? ⟨g2, 2, none⟩ = some (.string ⟨#[]⟩) := (blk_cell K2.out 2).trans rfl; have hyz2 := blk_frozen K2.out 2; have hy3 : w4.cell? ⟨g2, 3, none⟩ = some (.string ⟨#[]⟩) := (blk_cell K2.out 3).trans rfl; have hyz3 := blk_frozen K2.out 3; have hy4 : w4.cell? ⟨g2, 4, none⟩ = some (.string ⟨#[]⟩) := (blk_cell K2.out 4).trans rfl; have hyz4 := blk_frozen K2.out 4; have hy5 : w4.cell? ⟨g2, 5, none⟩ = some (.int .i64 0) := (blk_cell K2.out 5).trans rfl; have hyz5 := blk_frozen K2.out 5; have hy6 : w4.cell? ⟨g2, 6, none⟩ = some (.int .i64 0) := (blk_cell K2.out 6).trans rfl; have hyz6 := blk_frozen K2.out 6; have hy7 : w4.cell? ⟨g2, 7, none⟩ = some (.int .i64 0) := (blk_cell K2.out 7).trans rfl; have hyz7 := blk_frozen K2.out 7; have hy8 : w4.cell? ⟨g2, 8, none⟩ = some (.int .i64 0) := (blk_cell K2.out 8).trans rfl; have hyz8 := blk_frozen K2.out 8; have hy9 : w4.cell? ⟨g2, 9, none⟩ = some (.int .i64 0) := (blk_cell K2.out 9).trans rfl; have hyz9 := blk_frozen K2.out 9; have hy10 : w4.cell? ⟨g2, 10, none⟩ = some (.int .i64 0) := (blk_cell K2.out 10).trans rfl; have hyz10 := blk_frozen K2.out 10; have hy11 : w4.cell? ⟨g2, 11, none⟩ = some (.int .i64 0) := (blk_cell K2.out 11).trans rfl; have hyz11 := blk_frozen K2.out 11; have hy12 : w4.cell? ⟨g2, 12, none⟩ = some (.int .i64 0) := (blk_cell K2.out 12).trans rfl; have hyz12 := blk_frozen K2.out 12; have hy13 : w4.cell? ⟨g2, 13, none⟩ = some (.slice none 0 0) := (blk_cell K2.out 13).trans rfl; have hyz13 := blk_frozen K2.out 13))
  refine bodyPost_ret (results_cell_row rfl _ _ g2 32 #[.int .i64 a.f0, .string a.f1, .string a.f2, .string a.f3, .string a.f4, .int .i64 a.f5, .int .i64 a.f6, .int .i64 a.f7, .int .i64 a.f8, .int .i64 a.f9, .int .i64 a.f10, .int .i64 a.f11, .int .i64 a.f12, .slice A a.f13.length c] (0, 0) _ rfl (blk_fill14 K2.out _ _ _ _ _ _ _ _ _ _ _ _ _ _) Tryz.underlying32 rfl (by kernel_rfl)) rfl ?_
  exact ⟨rfl, low_cells14 L2.out G2.out⟩
theorem few_f (a : AskV) : spigotlaw12_few.f a.f0 a.f1 a.f2 a.f3 a.f4 a.f5 a.f6 a.f7 a.f8 a.f9 a.f10 a.f11 a.f12 a.f13 = some (decide (((a.f1.size : Int) ≤ 200 ∧ (a.f2.size : Int) ≤ 200 ∧ (a.f3.size : Int) ≤ 200 ∧ (a.f4.size : Int) ≤ 200) ∧ (a.f13.length : Int) ≤ 100)) := by
  unfold spigotlaw12_few.f
  by_cases c1 : (a.f1.size : Int) ≤ 200
  case neg => rw [if_neg c1, decide_eq_false (fun h => c1 h.1.1)]
  rw [if_pos c1]
  by_cases c2 : (a.f2.size : Int) ≤ 200
  case neg => rw [if_neg c2, decide_eq_false (fun h => c2 h.1.2.1)]
  rw [if_pos c2]
  by_cases c3 : (a.f3.size : Int) ≤ 200
  case neg => rw [if_neg c3, decide_eq_false (fun h => c3 h.1.2.2.1)]
  rw [if_pos c3]
  by_cases c4 : (a.f4.size : Int) ≤ 200
  case neg => rw [if_neg c4, decide_eq_false (fun h => c4 h.1.2.2.2)]
  rw [if_pos c4]
  congr 1
  rw [decide_eq_decide]
  exact ⟨fun h => ⟨⟨c1, c2, c3, c4⟩, h⟩, fun h => h.2⟩
set_option maxRecDepth 100000 in
set_option maxHeartbeats 8000000 in
theorem askEncodes_walk (a : AskV) (A : Option Addr) (c : Nat) (w : World) (hT_ : Aside0 (Tabs_ w)) (hr0 : Kd.C (Kd.int .i64) w A a.f13.length a.f13) (hc0 : a.f13.length ≤ c) : Calls Tryz.prog 3 #[.agg #[.int .i64 a.f0, .string a.f1, .string a.f2, .string a.f3, .string a.f4, .int .i64 a.f5, .int .i64 a.f6, .int .i64 a.f7, .int .i64 a.f8, .int .i64 a.f9, .int .i64 a.f10, .int .i64 a.f11, .int .i64 a.f12, .slice A a.f13.length c]] w (TrueW w) := by
  have HX0 := Aside0.mk (blk_new w (.cells #[.int .i64 a.f0, .string a.f1, .string a.f2, .string a.f3, .string a.f4, .int .i64 a.f5, .int .i64 a.f6, .int .i64 a.f7, .int .i64 a.f8, .int .i64 a.f9, .int .i64 a.f10, .int .i64 a.f11, .int .i64 a.f12, .slice A a.f13.length c] 24))
  have HL0 : Aside0 (Below w.heap.size w (w.alloc (.cells #[.int .i64 a.f0, .string a.f1, .string a.f2, .string a.f3, .string a.f4, .int .i64 a.f5, .int .i64 a.f6, .int .i64 a.f7, .int .i64 a.f8, .int .i64 a.f9, .int .i64 a.f10, .int .i64 a.f11, .int .i64 a.f12, .slice A a.f13.length c] 24))) := ⟨(Below.refl _ _).alloc (Nat.le_refl _) _⟩
  have HC := Aside0.mk hr0
  have HTb : Aside0 (∀ W, Below w.heap.size w W → Aside0 (Tabs_ W)) := ⟨fun W h => ⟨hT_.out.below h⟩⟩
  have HAw : Aside0 (∀ W, Below w.heap.size w W → Calls Tryz.prog 5 #[] W fun e w' => e = .returned (.bool true) ∧ Below W.heap.size W w') := ⟨fun W h => spigotlaw12_awake.calls true W (HTb.out W h) aw12_f⟩
  obtain ⟨fw, hfw⟩ : ∃ b, decide (((a.f1.size : Int) ≤ 200 ∧ (a.f2.size : Int) ≤ 200 ∧ (a.f3.size : Int) ≤ 200 ∧ (a.f4.size : Int) ≤ 200) ∧ (a.f13.length : Int) ≤ 100) = b := ⟨_, rfl⟩
  have HFw : Aside0 (∀ W, Below w.heap.size w W → Calls Tryz.prog 6 #[.agg #[.int .i64 a.f0, .string a.f1, .string a.f2, .string a.f3, .string a.f4, .int .i64 a.f5, .int .i64 a.f6, .int .i64 a.f7, .int .i64 a.f8, .int .i64 a.f9, .int .i64 a.f10, .int .i64 a.f11, .int .i64 a.f12, .slice A a.f13.length c]] W fun e w' => e = .returned (.bool fw) ∧ Below W.heap.size W w') := ⟨fun W h => spigotlaw12_few.calls a.f0 a.f1 a.f2 a.f3 a.f4 a.f5 a.f6 a.f7 a.f8 a.f9 a.f10 a.f11 a.f12 A c a.f13 fw W (Kd.C_below HC.out h) hc0 (by rw [few_f, hfw])⟩
  cases fw with
  | false =>
    clear hr0 hc0 hfw HC
    go_enter Tryz.func3, Tryz.ntmps3
    go_wp2_with (first
      | (go_at_call 5; ((with_reducible refine (HAw.out _ HL0.out).mono ?_)); rintro e w1 ⟨rfl, hb⟩; have HL1 := Aside0.mk (HL0.out.trans (hb.mono HL0.out.size)); have HX1 := Aside0.mk (blk_below HX0.out hb); have hca := fun i => blk_cell HX1.out i; clear hb HAw)
      | (go_at_call 6; ((with_reducible refine (HFw.out _ HL1.out).mono ?_)); rintro e w2 ⟨rfl, hb⟩; have HL2 := Aside0.mk (HL1.out.trans (hb.mono HL1.out.size)); clear hb HFw))
    go_ret
    exact ⟨rfl, HL2.out⟩
  | true =>
    obtain ⟨⟨s1, s2, s3, s4⟩, s5⟩ := of_decide_eq_true hfw
    have HEn : Aside0 (∀ W, Below w.heap.size w W → Calls Tryz.prog 7 #[.agg #[.int .i64 a.f0, .string a.f1, .string a.f2, .string a.f3, .string a.f4, .int .i64 a.f5, .int .i64 a.f6, .int .i64 a.f7, .int .i64 a.f8, .int .i64 a.f9, .int .i64 a.f10, .int .i64 a.f11, .int .i64 a.f12, .slice A a.f13.length c]] W fun e w' => e = .returned (.tuple #[.string (encA a).1, .int .i64 (encA a).2]) ∧ Below W.heap.size W w') := ⟨fun W h => ask_Encode.calls a.f0 a.f1 a.f2 a.f3 a.f4 a.f5 a.f6 a.f7 a.f8 a.f9 a.f10 a.f11 a.f12 A c a.f13 _ _ W (HTb.out W h) (Kd.C_below HC.out h) hc0 (encode_f a (by omega) (by omega) (by omega) (by omega))⟩
    have HEr : Aside0 (∀ W, Below w.heap.size w W → Calls Tryz.prog 8 #[.agg #[.int .i64 a.f0, .string a.f1, .string a.f2, .string a.f3, .string a.f4, .int .i64 a.f5, .int .i64 a.f6, .int .i64 a.f7, .int .i64 a.f8, .int .i64 a.f9, .int .i64 a.f10, .int .i64 a.f11, .int .i64 a.f12, .slice A a.f13.length c]] W fun e w' => e = .returned (.tuple #[.string (encA a).1, .int .i64 (encA a).2]) ∧ Below W.heap.size W w') := ⟨fun W h => ref12_Encode_walk a A c W (Kd.C_below HC.out h) hc0 ⟨by omega, by omega, by omega, by omega⟩ (by omega)⟩
    have HRt : Aside0 (∀ W, Below w.heap.size w W → Calls Tryz.prog 10 #[.agg #[.int .i64 a.f0, .string a.f1, .string a.f2, .string a.f3, .string a.f4, .int .i64 a.f5, .int .i64 a.f6, .int .i64 a.f7, .int .i64 a.f8, .int .i64 a.f9, .int .i64 a.f10, .int .i64 a.f11, .int .i64 a.f12, .slice A a.f13.length c]] W fun e w' => e = .returned (.bool (decide (RightA a))) ∧ Below W.heap.size W w') := ⟨fun W h => right_all a A c W (by omega) (by omega) (by omega) (by omega) (Kd.C_below HC.out h) hc0⟩
    have HRr : Aside0 (∀ W, Below w.heap.size w W → Calls Tryz.prog 11 #[.agg #[.int .i64 a.f0, .string a.f1, .string a.f2, .string a.f3, .string a.f4, .int .i64 a.f5, .int .i64 a.f6, .int .i64 a.f7, .int .i64 a.f8, .int .i64 a.f9, .int .i64 a.f10, .int .i64 a.f11, .int .i64 a.f12, .slice A a.f13.length c]] W fun e w' => e = .returned (.bool (decide (RightA a))) ∧ Below W.heap.size W w') := ⟨fun W h => ref_right_all a A c W (by omega) (by omega) (by omega) (by omega) (by omega) (Kd.C_below HC.out h) hc0⟩
    generalize decide (RightA a) = rt at *
    generalize (encA a).1 = bs at *
    generalize (encA a).2 = en at *
    have u1 : (rt == rt) = true := beq_self_eq_true rt
    have u2' : (bs.toList == bs.toList) = true := beq_self_eq_true _
    have u3 : (en == en) = true := beq_self_eq_true en
    clear hr0 hc0 hfw s1 s2 s3 s4 s5
    go_enter Tryz.func3, Tryz.ntmps3
    go_wp2_with (first
      | (go_at_call 5; ((with_reducible refine (HAw.out _ HL0.out).mono ?_)); rintro e w1 ⟨rfl, hb⟩; have HL1 := Aside0.mk (HL0.out.trans (hb.mono HL0.out.size)); have HX1 := Aside0.mk (blk_below HX0.out hb); have hca := fun i => blk_cell HX1.out i; clear hb HAw)
      | (go_at_call 6; ((with_reducible refine (HFw.out _ HL1.out).mono ?_)); rintro e w2 ⟨rfl, hb⟩; have HL2 := Aside0.mk (HL1.out.trans (hb.mono HL1.out.size)); clear hca; have HX2 := Aside0.mk (blk_below HX1.out hb); have hca := fun i => blk_cell HX2.out i; clear hb HFw)
      | (go_at_call 7; ((with_reducible refine (HEn.out _ HL2.out).mono ?_)); rintro e w3 ⟨rfl, hb⟩; have HL3 := Aside0.mk (HL2.out.trans (hb.mono HL2.out.size)); clear hca; have HX3 := Aside0.mk (blk_below HX2.out hb); have hca := fun i => blk_cell HX3.out i; clear hb HEn)
      | (go_at_call 9; ((with_reducible refine (plain_any a A c _).mono ?_)); rintro e w4 ⟨rfl, hb⟩; have HL4 := Aside0.mk (HL3.out.trans (hb.mono HL3.out.size)); clear hca; have HX4 := Aside0.mk (blk_below HX3.out hb); have hca := fun i => blk_cell HX4.out i; clear hb)
      | (go_at_call 8; ((with_reducible refine (HEr.out _ HL4.out).mono ?_)); rintro e w5 ⟨rfl, hb⟩; have HL5 := Aside0.mk (HL4.out.trans (hb.mono HL4.out.size)); clear hca; have HX5 := Aside0.mk (blk_below HX4.out hb); clear hb HEr))
    have HL6 : Aside0 (Below w.heap.size w w5.drew) := ⟨HL5.out.drew⟩
    refine start_ (n := 17) (S := fun w' => (∀ i, w'.cell? ⟨w.heap.size, i, none⟩ = (#[.int .i64 a.f0, .string a.f1, .string a.f2, .string a.f3, .string a.f4, .int .i64 a.f5, .int .i64 a.f6, .int .i64 a.f7, .int .i64 a.f8, .int .i64 a.f9, .int .i64 a.f10, .int .i64 a.f11, .int .i64 a.f12, .slice A a.f13.length c] : Array Value)[i]?) ∧ (w.heap.size < w'.heap.size)) (ds := []) #[false, false, false, false, false, false, false, false, false, false, false, false, false, false, false, false, false] (by kernel_rfl) rfl rfl ⟨(fun i => blk_cell (w := w5.drew) HX5.out i), blk_lt (w := w5.drew) HX5.out⟩ (fun hHeld => ?_)
    refine take_ (i := 0) (N := some 23) (v := ?_) (a' := ?_) #[true, false, false, false, false, false, false, false, false, false, false, false, false, false, false, false, false] rfl rfl (by kernel_rfl) (fun _ _ _ h => h) (Or.inl ⟨by rfl, ?_⟩) hHeld ?_ ?_
    rotate_left
    · rintro w' ⟨s0, s1⟩
      go_simp
      with_reducible rfl
    rotate_left
    · simp only [Act.put, List.setIfInBounds_toArray, List.set_cons_zero, List.set_cons_succ, i64_w, i32_w]
      rfl
    refine take_ (i := 2) (N := some 25) (v := ?_) (a' := ?_) #[true, false, true, false, false, false, false, false, false, false, false, false, false, false, false, false, false] rfl rfl (by kernel_rfl) (fun _ _ _ h => h) (Or.inl ⟨by rfl, ?_⟩) hHeld ?_ ?_
    rotate_left
    · rintro w' ⟨s0, s1⟩
      go_simp
      with_reducible rfl
    rotate_left
    · simp only [Act.put, List.setIfInBounds_toArray, List.set_cons_zero, List.set_cons_succ, i64_w, i32_w]
      rfl
    refine one_ (i := 1) (N := some 24) #[true, true, true, false, false, false, false, false, false, false, false, false, false, false, false, false, false] rfl rfl (by kernel_rfl) (by decide) (fun K hK => ?_)
    refine goes_ Tryz.func10 (by kernel_rfl) rfl #[.agg #[.int .i64 a.f0, .string a.f1, .string a.f2, .string a.f3, .string a.f4, .int .i64 a.f5, .int .i64 a.f6, .int .i64 a.f7, .int .i64 a.f8, .int .i64 a.f9, .int .i64 a.f10, .int .i64 a.f11, .int .i64 a.f12, .slice A a.f13.length c]] (by rfl) rfl rfl (by simp only [List.map_toArray, List.map_cons, List.map_nil]; rfl) ?_
    with_reducible refine (HRt.out _ HL6.out).mono ?_
    rintro e w7 ⟨rfl, hb7⟩
    refine ⟨_, rfl, ?_⟩
    have HL7 := Aside0.mk (HL6.out.trans (hb7.mono HL6.out.size))
    refine hK.out _ _ ⟨(fun i => (hb7.cell (p := ⟨w.heap.size, i, none⟩) hHeld.2).trans (hHeld.1 i)), (Nat.lt_of_lt_of_le hHeld.2 hb7.size)⟩ (fun hHeld => ?_)
    clear hK K
    refine norm_ (a' := ?_) ?_ ?_
    rotate_left
    · show Act.put _ (some 24) _ = _
      simp only [Act.put, List.setIfInBounds_toArray, List.set_cons_zero, List.set_cons_succ, i64_w, i32_w]
      rfl
    refine one_ (i := 3) (N := some 26) #[true, true, true, true, false, false, false, false, false, false, false, false, false, false, false, false, false] rfl rfl (by kernel_rfl) (by decide) (fun K hK => ?_)
    refine goes_ Tryz.func9 (by kernel_rfl) rfl #[.agg #[.int .i64 a.f0, .string a.f1, .string a.f2, .string a.f3, .string a.f4, .int .i64 a.f5, .int .i64 a.f6, .int .i64 a.f7, .int .i64 a.f8, .int .i64 a.f9, .int .i64 a.f10, .int .i64 a.f11, .int .i64 a.f12, .slice A a.f13.length c]] (by rfl) rfl rfl (by simp only [List.map_toArray, List.map_cons, List.map_nil]; rfl) ?_
    with_reducible refine (plain_any a A c _).mono ?_
    rintro e w8 ⟨rfl, hb8⟩
    refine ⟨_, rfl, ?_⟩
    have HL8 := Aside0.mk (HL7.out.trans (hb8.mono HL7.out.size))
    refine hK.out _ _ ⟨(fun i => (hb8.cell (p := ⟨w.heap.size, i, none⟩) hHeld.2).trans (hHeld.1 i)), (Nat.lt_of_lt_of_le hHeld.2 hb8.size)⟩ (fun hHeld => ?_)
    clear hK K
    refine norm_ (a' := ?_) ?_ ?_
    rotate_left
    · show Act.put _ (some 26) _ = _
      simp only [Act.put, List.setIfInBounds_toArray, List.set_cons_zero, List.set_cons_succ, i64_w, i32_w]
      rfl
    refine one_ (i := 4) (N := some 27) #[true, true, true, true, true, false, false, false, false, false, false, false, false, false, false, false, false] rfl rfl (by kernel_rfl) (by decide) (fun K hK => ?_)
    refine goes_ Tryz.func11 (by kernel_rfl) rfl #[.agg #[.int .i64 a.f0, .string a.f1, .string a.f2, .string a.f3, .string a.f4, .int .i64 a.f5, .int .i64 a.f6, .int .i64 a.f7, .int .i64 a.f8, .int .i64 a.f9, .int .i64 a.f10, .int .i64 a.f11, .int .i64 a.f12, .slice A a.f13.length c]] (by rfl) rfl rfl (by simp only [List.map_toArray, List.map_cons, List.map_nil]; rfl) ?_
    with_reducible refine (HRr.out _ HL8.out).mono ?_
    rintro e w9 ⟨rfl, hb9⟩
    refine ⟨_, rfl, ?_⟩
    have HL9 := Aside0.mk (HL8.out.trans (hb9.mono HL8.out.size))
    refine hK.out _ _ ⟨(fun i => (hb9.cell (p := ⟨w.heap.size, i, none⟩) hHeld.2).trans (hHeld.1 i)), (Nat.lt_of_lt_of_le hHeld.2 hb9.size)⟩ (fun hHeld => ?_)
    clear hK K
    refine norm_ (a' := ?_) ?_ ?_
    rotate_left
    · show Act.put _ (some 27) _ = _
      simp only [Act.put, List.setIfInBounds_toArray, List.set_cons_zero, List.set_cons_succ, i64_w, i32_w]
      rfl
    refine pure_ (i := 5) (N := some 28) (v := ?_) (a' := ?_) #[true, true, true, true, true, true, false, false, false, false, false, false, false, false, false, false, false] rfl rfl (by kernel_rfl) (fun _ _ _ h => h) (Or.inl ⟨by rfl, ?_⟩) ?_ ?_
    rotate_left
    · intro w'
      go_simp
      with_reducible rfl
    rotate_left
    · simp only [Act.put, List.setIfInBounds_toArray, List.set_cons_zero, List.set_cons_succ, i64_w, i32_w]
      rfl
    refine pure_ (i := 6) (N := some 29) (v := ?_) (a' := ?_) #[true, true, true, true, true, true, true, false, false, false, false, false, false, false, false, false, false] rfl rfl (by kernel_rfl) (fun _ _ _ h => h) (Or.inl ⟨by rfl, ?_⟩) ?_ ?_
    rotate_left
    · intro w'
      go_simp
      with_reducible rfl
    rotate_left
    · simp only [Act.put, List.setIfInBounds_toArray, List.set_cons_zero, List.set_cons_succ, i64_w, i32_w]
      rfl
    refine pure_ (i := 7) (N := some 30) (v := ?_) (a' := ?_) #[true, true, true, true, true, true, true, true, false, false, false, false, false, false, false, false, false] rfl rfl (by kernel_rfl) (fun _ _ _ h => h) (Or.inl ⟨by rfl, ?_⟩) ?_ ?_
    rotate_left
    · intro w'
      go_simp
      with_reducible rfl
    rotate_left
    · simp only [Act.put, List.setIfInBounds_toArray, List.set_cons_zero, List.set_cons_succ, i64_w, i32_w]
      rfl
    refine pure_ (i := 8) (N := some 31) (v := ?_) (a' := ?_) #[true, true, true, true, true, true, true, true, true, false, false, false, false, false, false, false, false] rfl rfl (by kernel_rfl) (fun _ _ _ h => h) (Or.inl ⟨by rfl, ?_⟩) ?_ ?_
    rotate_left
    · intro w'
      go_simp
      with_reducible rfl
    rotate_left
    · simp only [Act.put, List.setIfInBounds_toArray, List.set_cons_zero, List.set_cons_succ, i64_w, i32_w]
      rfl
    refine pure_ (i := 9) (N := some 32) (v := ?_) (a' := ?_) #[true, true, true, true, true, true, true, true, true, true, false, false, false, false, false, false, false] rfl rfl (by kernel_rfl) (fun _ _ _ h => h) (Or.inl ⟨by rfl, ?_⟩) ?_ ?_
    rotate_left
    · intro w'
      go_simp
      with_reducible rfl
    rotate_left
    · simp only [Act.put, List.setIfInBounds_toArray, List.set_cons_zero, List.set_cons_succ, i64_w, i32_w]
      rfl
    refine pure_ (i := 10) (N := some 33) (v := ?_) (a' := ?_) #[true, true, true, true, true, true, true, true, true, true, true, false, false, false, false, false, false] rfl rfl (by kernel_rfl) (fun _ _ _ h => h) (Or.inl ⟨by rfl, ?_⟩) ?_ ?_
    rotate_left
    · intro w'
      go_simp
      with_reducible rfl
    rotate_left
    · simp only [Act.put, List.setIfInBounds_toArray, List.set_cons_zero, List.set_cons_succ, i64_w, i32_w]
      rfl
    refine pure_ (i := 11) (N := some 34) (v := ?_) (a' := ?_) #[true, true, true, true, true, true, true, true, true, true, true, true, false, false, false, false, false] rfl rfl (by kernel_rfl) (fun _ _ _ h => h) (Or.inl ⟨by rfl, ?_⟩) ?_ ?_
    rotate_left
    · intro w'
      go_simp
      with_reducible rfl
    rotate_left
    · simp only [Act.put, List.setIfInBounds_toArray, List.set_cons_zero, List.set_cons_succ, i64_w, i32_w]
      rfl
    refine pure_ (i := 12) (N := some 35) (v := ?_) (a' := ?_) #[true, true, true, true, true, true, true, true, true, true, true, true, true, false, false, false, false] rfl rfl (by kernel_rfl) (fun _ _ _ h => h) (Or.inl ⟨by rfl, ?_⟩) ?_ ?_
    rotate_left
    · intro w'
      go_simp
      with_reducible rfl
    rotate_left
    · simp only [Act.put, List.setIfInBounds_toArray, List.set_cons_zero, List.set_cons_succ, i64_w, i32_w]
      rfl
    refine pure_ (i := 13) (N := some 36) (v := ?_) (a' := ?_) #[true, true, true, true, true, true, true, true, true, true, true, true, true, true, false, false, false] rfl rfl (by kernel_rfl) (fun _ _ _ h => h) (Or.inl ⟨by rfl, ?_⟩) ?_ ?_
    rotate_left
    · intro w'
      go_simp
      with_reducible rfl
    rotate_left
    · simp only [Act.put, List.setIfInBounds_toArray, List.set_cons_zero, List.set_cons_succ, i64_w, i32_w]
      rfl
    refine pure_ (i := 14) (N := some 37) (v := ?_) (a' := ?_) #[true, true, true, true, true, true, true, true, true, true, true, true, true, true, true, false, false] rfl rfl (by kernel_rfl) (fun _ _ _ h => h) (Or.inl ⟨by rfl, ?_⟩) ?_ ?_
    rotate_left
    · intro w'
      go_simp
      with_reducible rfl
    rotate_left
    · simp only [Act.put, List.setIfInBounds_toArray, List.set_cons_zero, List.set_cons_succ, i64_w, i32_w]
      rfl
    refine pure_ (i := 15) (N := some 38) (v := ?_) (a' := ?_) #[true, true, true, true, true, true, true, true, true, true, true, true, true, true, true, true, false] rfl rfl (by kernel_rfl) (fun _ _ _ h => h) (Or.inl ⟨by rfl, ?_⟩) ?_ ?_
    rotate_left
    · intro w'
      go_simp
      with_reducible rfl
    rotate_left
    · simp only [Act.put, List.setIfInBounds_toArray, List.set_cons_zero, List.set_cons_succ, i64_w, i32_w]
      rfl
    refine pure_ (i := 16) (N := some 2) (v := ?_) (a' := ?_) #[true, true, true, true, true, true, true, true, true, true, true, true, true, true, true, true, true] rfl rfl (by kernel_rfl) (fun _ _ _ h => h) (Or.inl ⟨by rfl, ?_⟩) ?_ ?_
    rotate_left
    · intro w'
      go_simp
      with_reducible rfl
    rotate_left
    · simp only [Act.put, List.setIfInBounds_toArray, List.set_cons_zero, List.set_cons_succ, i64_w, i32_w]
      rfl
    refine done_ (by kernel_rfl) ?_
    go_wp2
    go_ret
    exact ⟨rfl, HL9.out⟩
def spigotlaw12_AskEncodes.f (a0_0 : Int) (a0_1 a0_2 a0_3 a0_4 : ByteArray) (a0_5 a0_6 a0_7 a0_8 a0_9 a0_10 a0_11 a0_12 : Int) (l0_13 : List Int) : Option Bool := some true
theorem spigotlaw12_AskEncodes.calls (a0_0 : Int) (a0_1 a0_2 a0_3 a0_4 : ByteArray) (a0_5 a0_6 a0_7 a0_8 a0_9 a0_10 a0_11 a0_12 : Int) (A0_13 : Option Addr) (c0_13 : Nat) (l0_13 : List Int) (r : Bool) (w : World) (hT_ : Aside0 (Tabs_ w)) (hr0_13 : Kd.C (Kd.int .i64) w A0_13 l0_13.length l0_13) (hc0_13 : l0_13.length ≤ c0_13) (h : spigotlaw12_AskEncodes.f a0_0 a0_1 a0_2 a0_3 a0_4 a0_5 a0_6 a0_7 a0_8 a0_9 a0_10 a0_11 a0_12 l0_13 = some r) :
    Calls Tryz.prog 3 #[.agg #[.int .i64 a0_0, .string a0_1, .string a0_2, .string a0_3, .string a0_4, .int .i64 a0_5, .int .i64 a0_6, .int .i64 a0_7, .int .i64 a0_8, .int .i64 a0_9, .int .i64 a0_10, .int .i64 a0_11, .int .i64 a0_12, .slice A0_13 l0_13.length c0_13]] w fun e w' => e = .returned (.bool r) ∧ Below w.heap.size w w' := by
  obtain rfl := Option.some.inj h
  exact askEncodes_walk ⟨a0_0, a0_1, a0_2, a0_3, a0_4, a0_5, a0_6, a0_7, a0_8, a0_9, a0_10, a0_11, a0_12, l0_13⟩ A0_13 c0_13 w hT_ hr0_13 hc0_13
end Go.Proofs.YtgfigkfcmkdjdaaGreatDoor.B
end
