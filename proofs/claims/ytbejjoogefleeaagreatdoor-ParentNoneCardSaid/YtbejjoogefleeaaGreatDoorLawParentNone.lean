/- Each Go function that the laws of this seat reach, as a plain Lean function, and its contract: the machine's call does what that function says. -/
import Derived.Test.YtbejjoogefleeaaGreatDoorRows
import Derived.Test.YtbejjoogefleeaaGreatDoorEx4
import Derived.Test.YtbejjoogefleeaaGreatDoorPureParentNone
import Derived.Test.YtbejjoogefleeaaGreatDoorTie
import Derived.Test.YtbejjoogefleeaaGreatDoorCards
import Derived.WalkKit
import Derived.LaidMore
import Derived.MakeChecks
import Derived.Stop.Joined
import Derived.Stop.LaidErr
import Derived.SevenTiedAt
import Derived.Lib.LaidTab
import Derived.ProofKit
import Derived.OpenShut
import Derived.ShutString
import Derived.ChangeOld
import Derived.Below
import Derived.SizedLaws
namespace Go.Proofs.YtbejjoogefleeaaGreatDoor.parentNone
open Go.ChangeShapes Go.WideShapes Go.ChangeAt Go.RowKit
open Go.ChangeMaps (open_string shut_string)
open Go.Proofs.YtbejjoogefleeaaGreatDoor.E Go.Proofs.YtbejjoogefleeaaGreatDoorW.PrintWords Go.Proofs.YtbejjoogefleeaaGreatDoorW.PrintLast
set_option linter.unusedVariables false
theorem own : ownKnob Tryz.prog.godebug = none := by kernel_rfl
theorem laidOut : laidOutB Tryz.prog = true := by kernel_rfl
def laidL : List (String × DataW Unit) := Rows.parentNoneRow.laid
/-- The door's own heap meets the condition: closed facts. -/
theorem door_met (os : Os) (args : Array Value) : laidMetH Tryz.prog laidL ((World.doorLaid Tryz.prog 24 os).forCall (fun _ _ => 0) ⟨#[], args, []⟩).memory :=
  laidMetH_of_parts3 (fuel := 8) (laidMet_of_run' 8 (by kernel_rfl) (by kernel_rfl)) (by kernel_rfl) (by kernel_rfl)
theorem gpow : Tryz.prog.globalNamed "internal/strconv.uint64pow10" = some 0 := by kernel_rfl
theorem tpow : (Tryz.prog.globals[0]?).map (·.type) = some 343 := by kernel_rfl
/-- What the condition gives: the table of powers. -/
theorem of_laid {W : World} (h : laidMetH Tryz.prog laidL W) : Lib.TabIs Tryz.prog W "internal/strconv.uint64pow10" .u64 Lib.pow10Tab := by
  rw [MakeChecks.laidMetH_plain _ _ _ (by kernel_rfl)] at h
  exact Lib.tabIs_of_head gpow tpow Tryz.underlying343 Tryz.underlying229 (by kernel_rfl) (by kernel_rfl) ((h.tail).tail)
set_option maxRecDepth 100000 in
theorem lifted (os : Os) (started : os.Started) (H : Type) (enc : TypeId × Value → H) :
    ReturnsInHanded {} Tryz.checked os 5 .any (fun w args => (Rows.parentNoneSpec.pre enc Tryz.prog Tryz.f5 [] false w args ∧ laidMetH Tryz.prog laidL w) ∧ sizedMet enc Tryz.prog Tryz.f5 (OpenSpec.ofChange Rows.parentNoneSpec) false w args) (Rows.parentNoneSpec.post enc Tryz.prog Tryz.f5 false true false false) := by
  refine returnsInHanded_of_change_and (C := Tryz.checked) (X := fun w _ => laidMetH Tryz.prog laidL w) (fun _ _ _ hh h => h.of_heap hh) own started (by kernel_rfl) Tryz.func5
    (ChangeSpec.witness_shaped (enc := enc) (C := Tryz.checked) (os := os) (X := fun w _ => laidMetH Tryz.prog laidL w) false (World.doorLaid Tryz.prog 24 os) #[.agg #[.int .i64 0, .int .i64 0, .int .i64 0, .int .i64 0, .int .i64 0, .bool false, .int .i64 0, .int .i64 0, .string ByteArray.empty, .string ByteArray.empty, .int .i64 0, .int .i64 0, .string ByteArray.empty, .slice none 0 0]] 8 rfl (World.shaped_of_RefB (by kernel_rfl) (by kernel_rfl)) (by kernel_rfl) (by kernel_rfl) (by kernel_rfl) (door_met os _)) ?_
  intro W base args ds gs before hval0 hW hcnd hsz0 hL _
  have hsz : (DataW.weightsEach Tryz.prog (Tryz.f5.params.toList ++ Rows.parentNoneSpec.plain.varTypes Tryz.prog) (ds ++ gs)).all (· ≤ reachBytes) = true := hsz0
  have hval : ∀ (j : Nat) t v, Tryz.f5.params[j]? = some t → args[j]? = some v → Value.okWide Tryz.prog W .any base t v := hval0
  have hW' := hW
  obtain ⟨p, q, hA0, hV, rfl, hfz, hnd⟩ := hW
  have hA : DataW.TrodAll enc Tryz.prog W 0 (fun _ => true) true Tryz.f5.params.toList args.toList ds p := hA0
  rw [Tryz.params5] at hA hval hsz
  obtain ⟨v0, vs0, d0, ds0, p0, q0, hargs, rfl, rfl, h0, r0⟩ := trodAll_cons hA
  obtain ⟨rfl, rfl, rfl⟩ := trodAll_nil r0
  obtain rfl : args = #[v0] := by cases args; simp_all
  obtain ⟨rfl, rfl⟩ := trodVars_none hV
  have k0 := h0
  have lt0 : ∀ x ∈ p0, x.block < W.heap.size := by obtain ⟨m, hm⟩ := k0; exact DataW.trod_lt m _ _ _ hm
  obtain ⟨cs0, rfl, _⟩ := okWide_struct Tryz.underlying59 (hval 0 59 v0 rfl rfl)
  obtain ⟨fuel0, hf0⟩ := h0
  obtain ⟨s0, K0, ok0⟩ := opn_S59 W _ _ _ _ _ hf0
  obtain ⟨A7, c7, K0', l7, g7⟩ := k59_open K0
  obtain ⟨cs0⟩ := cs0
  simp only [Value.cells] at K0'
  subst K0'
  clear hA0 hval0 hsz0 hsz
  have hq := Pure.ParentNone s0 ok0
  refine (spigotlaw28_ParentNone.calls s0.f0 s0.f1 s0.f2 s0.f3 s0.f4 s0.f5 s0.f6.f0 s0.f6.f1 s0.f6.f2 s0.f6.f3 s0.f6.f4 s0.f6.f5 s0.f6.f6 _ _ s0.f7 true W ⟨⟨of_laid hL⟩⟩ g7 l7 hq).mono ?_
  rintro e W' ⟨rfl, bel0⟩
  have bel := bel0
  exact ⟨_, rfl, _, _, _, [], _, [], hW', trodAll_mk1 (shut_bool Tryz.underlying4 _), (trodAll_cons_mk (Below.trod laidOut (by kernel_rfl) (of_decide_eq_true (by kernel_rfl)) k0 bel lt0) trodAll_mk0), rfl, bel.frame _, fun h => by cases h⟩
theorem cl_inPlace : (Rows.parentNoneRow.inPlace == Tryz.prog.inPlace 5) = true := by kernel_rfl
theorem cl_unfollowed : (Rows.parentNoneRow.unfollowed == Tryz.prog.unfollowed 5) = true := by kernel_rfl
theorem cl_recurses : (Rows.parentNoneRow.recurses == Tryz.prog.recurses 5) = true := by kernel_rfl
theorem cl_varsNamed : (Rows.parentNoneRow.named == Tryz.prog.varsNamed 5) = true := by kernel_rfl
theorem cl_laid : laidOutB Tryz.prog = true := by kernel_rfl
theorem cl_maps : mapsRowed Tryz.prog = true := by kernel_rfl
theorem cl_keys : (Rows.parentNoneRow.plainKeys == Tryz.prog.plainKeys) = true := by kernel_rfl
theorem cl_heard : Tryz.prog.stopsHeard = true := by kernel_rfl
theorem cl_lifts : (Rows.parentNoneRow.lifted == Tryz.prog.liftsFinal) = true := by kernel_rfl
theorem and2_ {a b : Bool} (ha : a = true) (hb : b = true) : (a && b) = true := by rw [ha, hb]; rfl
set_option maxRecDepth 100000 in
theorem closed : joinedFacts Tryz.prog 5 Tryz.f5 Rows.parentNoneSpec Rows.parentNoneRow = true := by
  unfold joinedFacts
  repeat' (with_reducible refine and2_ ?_ ?_)
  all_goals first
    | (with_reducible exact cl_inPlace)
    | (with_reducible exact cl_unfollowed)
    | (with_reducible exact cl_recurses)
    | (with_reducible exact cl_varsNamed)
    | (with_reducible exact cl_laid)
    | (with_reducible exact cl_maps)
    | (with_reducible exact cl_keys)
    | (with_reducible exact cl_heard)
    | (with_reducible exact cl_lifts)
    | kernel_rfl
theorem over : Rows.parentNoneRow.holds Tryz.pinned (OpenSpec.ofChange Rows.parentNoneSpec) :=
  OpenClaim.holds_of_wide 5 Tryz.f5 rfl rfl rfl rfl rfl rfl rfl ⟨rfl, rfl, rfl, rfl, rfl⟩ rfl rfl rfl rfl rfl (by kernel_rfl) Tryz.func5 closed
    (of_decide_eq_true (by kernel_rfl)) (by unfold Func.isWrapper; first | (rw [if_pos (by decide +kernel)]; kernel_rfl) | (rw [if_neg (by decide +kernel)]; exact ⟨rfl, rfl⟩))
    (fun os started H enc _ => lifted os started H enc)
theorem proved : Rows.ParentNoneSaid := over
theorem card : Rows.ParentNoneCardSaid :=
  Claim7.holds_tied_plain_at .later [] [.data, .data, .data] true (true, "f6abdd46c890347215b101b6df727bbdd5bb0eb600f8339dc239b2bc8e04cf5b") true
    over (fun _ h => by cases h) (by kernel_rfl) (fun _ h => by cases h) parentNone_row_tie rfl ⟨rfl, rfl⟩ (by kernel_rfl) rfl
    (fun f fn hf hfn => by
      obtain rfl : f = 5 := Option.some.inj ((show Tryz.prog.funcNamed "spigot/spigotlaw28.ParentNone" = some 5 by kernel_rfl).symm.trans hf) |>.symm
      obtain rfl : fn = Tryz.f5 := (Option.some.inj (Tryz.func5.symm.trans hfn)).symm
      exact ⟨by kernel_rfl, fun j t ht => by
        rw [Tryz.params5] at ht
        have hm : t ∈ [59] := by simpa using Array.mem_of_getElem? ht
        have hall : ([59].all fun u => !Tryz.prog.wantsStandIn u) = true := by kernel_rfl
        exact (show Tryz.prog.wantsStandIn t = false by simpa using List.all_eq_true.1 hall t hm)⟩)
    (by kernel_rfl)
#print axioms card
end Go.Proofs.YtbejjoogefleeaaGreatDoor.parentNone
namespace Go.Proofs.YtbejjoogefleeaaGreatDoor
/-- The row, under a short name, for the claim. -/
theorem parentNone_holds : Rows.ParentNoneCardSaid := parentNone.card
end Go.Proofs.YtbejjoogefleeaaGreatDoor
