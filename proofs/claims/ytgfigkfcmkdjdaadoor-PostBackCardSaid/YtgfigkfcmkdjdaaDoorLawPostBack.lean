/- Each Go function that the laws of this seat reach, as a plain Lean function, and its contract: the machine's call does what that function says. -/
import Derived.Test.YtgfigkfcmkdjdaaDoorRows
import Derived.Test.YtgfigkfcmkdjdaaDoorzPostBack3
import Derived.Test.YtgfigkfcmkdjdaaDoorzPostBack0
import Derived.Test.YtgfigkfcmkdjdaaDoorzPostBack1
import Derived.Test.YtgfigkfcmkdjdaaDoorzPostBack2
import Derived.Test.YtgfigkfcmkdjdaaDoorzPostBack4
import Derived.Test.YtgfigkfcmkdjdaaDoorzPostBack5
import Derived.Test.YtgfigkfcmkdjdaaDoorzPostBack6
import Derived.Test.YtgfigkfcmkdjdaaDoorzPostBack7
import Derived.Test.YtgfigkfcmkdjdaaDoorzPostBack8
import Derived.Test.YtgfigkfcmkdjdaaDoorzPostBack9
import Derived.Test.YtgfigkfcmkdjdaaDoorzPostBack10
import Derived.Test.YtgfigkfcmkdjdaaDoorzPostBack11
import Derived.Test.YtgfigkfcmkdjdaaDoorzPostBack12
import Derived.Test.YtgfigkfcmkdjdaaDoorzPostBack13
import Derived.Test.YtgfigkfcmkdjdaaDoorzPostBack14
import Derived.Test.YtgfigkfcmkdjdaaDoorzPostBack15
import Derived.Test.YtgfigkfcmkdjdaaDoorzPostBack16
import Derived.Test.YtgfigkfcmkdjdaaDoorzPostBack17
import Derived.Test.YtgfigkfcmkdjdaaDoorzPostBack18
import Derived.Test.YtgfigkfcmkdjdaaDoorzPostBack19
import Derived.Test.YtgfigkfcmkdjdaaDoorPurePostBack
import Derived.Test.YtgfigkfcmkdjdaaDoorTie
import Derived.Test.YtgfigkfcmkdjdaaDoorCards
import Derived.WalkKit
import Derived.LaidMore
import Derived.MakeChecks
import Derived.Stop.Joined
import Derived.Stop.LaidErr
import Derived.SevenTiedAt
import Derived.Lib.LaidTab
import Derived.ProofKit
import Derived.OpenShut
import Derived.ShutString
import Derived.ChangeOld
import Derived.Below
import Derived.SizedLaws
namespace Go.Proofs.YtgfigkfcmkdjdaaDoor.postBack
open Go.ChangeShapes Go.WideShapes Go.ChangeAt Go.RowKit
open Go.ChangeMaps (open_string shut_string)
open Go.Proofs.YtgfigkfcmkdjdaaDoor.B Go.Proofs.YtgfigkfcmkdjdaaDoorW.PrintWords Go.Proofs.YtgfigkfcmkdjdaaDoorW.PrintLast
set_option linter.unusedVariables false
theorem own : ownKnob Tryd.prog.godebug = none := by kernel_rfl
theorem laidOut : laidOutB Tryd.prog = true := by kernel_rfl
def laidL : List (String × DataW Unit) := Rows.postBackRow.laid
/-- The door's own heap meets the condition: closed facts. -/
theorem door_met (os : Os) (args : Array Value) : laidMetH Tryd.prog laidL ((World.doorLaid Tryd.prog 34 os).forCall (fun _ _ => 0) ⟨#[], args, []⟩).memory :=
  laidMetH_of_parts3 (fuel := 8) (laidMet_of_run' 8 (by kernel_rfl) (by kernel_rfl)) (by kernel_rfl) (by kernel_rfl)
theorem gpow : Tryd.prog.globalNamed "internal/strconv.uint64pow10" = some 0 := by kernel_rfl
theorem tpow : (Tryd.prog.globals[0]?).map (·.type) = some 200 := by kernel_rfl
/-- What the condition gives: the table of powers. -/
theorem of_laid {W : World} (h : laidMetH Tryd.prog laidL W) : Lib.TabIs Tryd.prog W "internal/strconv.uint64pow10" .u64 Lib.pow10Tab := by
  rw [MakeChecks.laidMetH_plain _ _ _ (by kernel_rfl)] at h
  exact Lib.tabIs_of_head gpow tpow Tryd.underlying200 Tryd.underlying186 (by kernel_rfl) (by kernel_rfl) ((h.tail).tail)
set_option maxRecDepth 100000 in
theorem lifted (os : Os) (started : os.Started) (H : Type) (enc : TypeId × Value → H) :
    ReturnsInHanded {} Tryd.checked os 9 .any (fun w args => (Rows.postBackSpec.pre enc Tryd.prog Tryd.f9 [] false w args ∧ laidMetH Tryd.prog laidL w) ∧ sizedMet enc Tryd.prog Tryd.f9 (OpenSpec.ofChange Rows.postBackSpec) false w args) (Rows.postBackSpec.post enc Tryd.prog Tryd.f9 false true false false) := by
  refine B.handed_shaped (C := Tryd.checked) (X := fun w => laidMetH Tryd.prog laidL w) (fun _ _ hh h => h.of_heap hh) own started (by kernel_rfl) Tryd.func9
    (ChangeSpec.witness_shaped (enc := enc) (C := Tryd.checked) (os := os) (X := fun w _ => laidMetH Tryd.prog laidL w) false (World.doorLaid Tryd.prog 34 os) #[.agg #[.int .i64 0, .int .i64 0, .string ByteArray.empty, .string ByteArray.empty, .int .i64 0, .int .i64 0, .int .i64 0], .agg #[.int .i64 0, .int .i64 0, .string ByteArray.empty, .string ByteArray.empty, .int .i64 0, .int .i64 0, .string ByteArray.empty]] 8 rfl (World.shaped_of_RefB (by kernel_rfl) (by kernel_rfl)) (by kernel_rfl) (by kernel_rfl) (by kernel_rfl) (door_met os _)) ?_
  intro W base args ds gs before hval0 hW hcnd hsz0 hL hsh
  have hsz : (DataW.weightsEach Tryd.prog (Tryd.f9.params.toList ++ Rows.postBackSpec.plain.varTypes Tryd.prog) (ds ++ gs)).all (· ≤ reachBytes) = true := hsz0
  have hval : ∀ (j : Nat) t v, Tryd.f9.params[j]? = some t → args[j]? = some v → Value.okWide Tryd.prog W .any base t v := hval0
  have hW' := hW
  obtain ⟨p, q, hA0, hV, rfl, hfz, hnd⟩ := hW
  have hA : DataW.TrodAll enc Tryd.prog W 0 (fun _ => true) true Tryd.f9.params.toList args.toList ds p := hA0
  rw [Tryd.params9] at hA hval hsz
  obtain ⟨v0, vs0, d0, ds0, p0, q0, hargs, rfl, rfl, h0, r0⟩ := trodAll_cons hA
  obtain ⟨v1, vs1, d1, ds1, p1, q1, rfl, rfl, rfl, h1, r1⟩ := trodAll_cons r0
  obtain ⟨rfl, rfl, rfl⟩ := trodAll_nil r1
  obtain rfl : args = #[v0, v1] := by cases args; simp_all
  obtain ⟨rfl, rfl⟩ := trodVars_none hV
  have k0 := h0
  have lt0 : ∀ x ∈ p0, x.block < W.heap.size := by obtain ⟨m, hm⟩ := k0; exact DataW.trod_lt m _ _ _ hm
  obtain ⟨cs0, rfl, _⟩ := okWide_struct Tryd.underlying41 (hval 0 41 v0 rfl rfl)
  obtain ⟨fuel0, hf0⟩ := h0
  obtain ⟨s0, K0, ok0⟩ := opn_S41 W _ _ _ _ _ hf0
  have K0' := k41_open K0
  obtain ⟨cs0⟩ := cs0
  simp only [Value.cells] at K0'
  subst K0'
  have k1 := h1
  have lt1 : ∀ x ∈ p1, x.block < W.heap.size := by obtain ⟨m, hm⟩ := k1; exact DataW.trod_lt m _ _ _ hm
  obtain ⟨cs1, rfl, _⟩ := okWide_struct Tryd.underlying54 (hval 1 54 v1 rfl rfl)
  obtain ⟨fuel1, hf1⟩ := h1
  obtain ⟨s1, K1, ok1⟩ := opn_S54 W _ _ _ _ _ hf1
  have K1' := k54_open K1
  obtain ⟨cs1⟩ := cs1
  simp only [Value.cells] at K1'
  subst K1'
  clear hA0 hval0 hsz0 hsz
  obtain ⟨k, hq⟩ := Pure.PostBack s0 s1 ok0 ok1
  refine (spigotlaw14_PostBack.calls k s0.f0 s0.f1 s0.f2 s0.f3 s0.f4 s0.f5 s0.f6 s1.f0 s1.f1 s1.f2 s1.f3 s1.f4 s1.f5 s1.f6 true W ⟨⟨of_laid hL, Tryd.laysM146.s1_3 W hsh⟩⟩  hq).mono ?_
  rintro e W' ⟨rfl, bel0⟩
  have bel := bel0
  exact ⟨_, rfl, _, _, _, [], _, [], hW', trodAll_mk1 (shut_bool Tryd.underlying4 _), (trodAll_cons_mk (Below.trod laidOut (by kernel_rfl) (of_decide_eq_true (by kernel_rfl)) k0 bel lt0) (trodAll_cons_mk (Below.trod laidOut (by kernel_rfl) (of_decide_eq_true (by kernel_rfl)) k1 bel lt1) trodAll_mk0)), rfl, bel.frame _, fun h => by cases h⟩
theorem over : Rows.postBackRow.holds Tryd.pinned (OpenSpec.ofChange Rows.postBackSpec) :=
  OpenClaim.holds_of_wide 9 Tryd.f9 rfl rfl rfl rfl rfl rfl rfl ⟨rfl, rfl, rfl, rfl, rfl⟩ rfl rfl rfl rfl rfl (by kernel_rfl) Tryd.func9 (by kernel_rfl)
    (of_decide_eq_true (by kernel_rfl)) (by unfold Func.isWrapper; first | (rw [if_pos (by decide +kernel)]; kernel_rfl) | (rw [if_neg (by decide +kernel)]; exact ⟨rfl, rfl⟩))
    (fun os started H enc _ => lifted os started H enc)
theorem proved : Rows.PostBackSaid := over
theorem card : Rows.PostBackCardSaid :=
  Claim7.holds_tied_plain_at .later [] [.data, .data, .data] true (true, "a1b82ef27e1c5177091d6f44d8ab2ca89c883a9cd7d8b2800ad4ec8d9a0e86b3") true
    over (fun _ h => by cases h) (by kernel_rfl) (fun _ h => by cases h) postBack_row_tie rfl ⟨rfl, rfl⟩ (by kernel_rfl) rfl
    (fun f fn hf hfn => by
      obtain rfl : f = 9 := Option.some.inj ((show Tryd.prog.funcNamed "spigot/spigotlaw14.PostBack" = some 9 by kernel_rfl).symm.trans hf) |>.symm
      obtain rfl : fn = Tryd.f9 := (Option.some.inj (Tryd.func9.symm.trans hfn)).symm
      exact ⟨by kernel_rfl, fun j t ht => by
        rw [Tryd.params9] at ht
        have hm : t ∈ [41, 54] := by simpa using Array.mem_of_getElem? ht
        have hall : ([41, 54].all fun u => !Tryd.prog.wantsStandIn u) = true := by kernel_rfl
        exact (show Tryd.prog.wantsStandIn t = false by simpa using List.all_eq_true.1 hall t hm)⟩)
    (by kernel_rfl)
#print axioms card
end Go.Proofs.YtgfigkfcmkdjdaaDoor.postBack
namespace Go.Proofs.YtgfigkfcmkdjdaaDoor
/-- The row, under a short name, for the claim. -/
theorem postBack_holds : Rows.PostBackCardSaid := postBack.card
end Go.Proofs.YtgfigkfcmkdjdaaDoor
