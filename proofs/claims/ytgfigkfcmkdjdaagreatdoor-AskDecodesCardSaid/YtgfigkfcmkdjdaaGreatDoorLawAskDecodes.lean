/- Each Go function that the laws of this seat reach, as a plain Lean function, and its contract: the machine's call does what that function says. -/
import Derived.Test.YtgfigkfcmkdjdaaGreatDoorRows
import Derived.Test.YtgfigkfcmkdjdaaGreatDoorzAskDecodes2
import Derived.Test.YtgfigkfcmkdjdaaGreatDoorzAskDecodes0
import Derived.Test.YtgfigkfcmkdjdaaGreatDoorzAskDecodes1
import Derived.Test.YtgfigkfcmkdjdaaGreatDoorzAskDecodes3
import Derived.Test.YtgfigkfcmkdjdaaGreatDoorzAskDecodes4
import Derived.Test.YtgfigkfcmkdjdaaGreatDoorzAskDecodes5
import Derived.Test.YtgfigkfcmkdjdaaGreatDoorzAskDecodes6
import Derived.Test.YtgfigkfcmkdjdaaGreatDoorzAskDecodes7
import Derived.Test.YtgfigkfcmkdjdaaGreatDoorzAskDecodes8
import Derived.Test.YtgfigkfcmkdjdaaGreatDoorzAskDecodes9
import Derived.Test.YtgfigkfcmkdjdaaGreatDoorzAskDecodes10
import Derived.Test.YtgfigkfcmkdjdaaGreatDoorzAskDecodes11
import Derived.Test.YtgfigkfcmkdjdaaGreatDoorzAskDecodes12
import Derived.Test.YtgfigkfcmkdjdaaGreatDoorzAskDecodes13
import Derived.Test.YtgfigkfcmkdjdaaGreatDoorzAskDecodes14
import Derived.Test.YtgfigkfcmkdjdaaGreatDoorzAskDecodes15
import Derived.Test.YtgfigkfcmkdjdaaGreatDoorzAskDecodes16
import Derived.Test.YtgfigkfcmkdjdaaGreatDoorzAskDecodes17
import Derived.Test.YtgfigkfcmkdjdaaGreatDoorzAskDecodes18
import Derived.Test.YtgfigkfcmkdjdaaGreatDoorzAskDecodes19
import Derived.Test.YtgfigkfcmkdjdaaGreatDoorzAskDecodes20
import Derived.Test.YtgfigkfcmkdjdaaGreatDoorzAskDecodes21
import Derived.Test.YtgfigkfcmkdjdaaGreatDoorzAskDecodes22
import Derived.Test.YtgfigkfcmkdjdaaGreatDoorzAskDecodes23
import Derived.Test.YtgfigkfcmkdjdaaGreatDoorzAskDecodes24
import Derived.Test.YtgfigkfcmkdjdaaGreatDoorzAskDecodes25
import Derived.Test.YtgfigkfcmkdjdaaGreatDoorzAskDecodes26
import Derived.Test.YtgfigkfcmkdjdaaGreatDoorPureAskDecodes
import Derived.Test.YtgfigkfcmkdjdaaGreatDoorTie
import Derived.Test.YtgfigkfcmkdjdaaGreatDoorCards
import Derived.WalkKit
import Derived.LaidMore
import Derived.Lay
import Derived.MakeChecks
import Derived.Stop.Joined
import Derived.Stop.LaidErr
import Derived.SevenTiedAt
import Derived.Lib.LaidTab
import Derived.ProofKit
import Derived.OpenShut
import Derived.ShutString
import Derived.ChangeOld
import Derived.Below
import Derived.SizedLaws
namespace Go.Proofs.YtgfigkfcmkdjdaaGreatDoor.askDecodes
open Go.ChangeShapes Go.WideShapes Go.ChangeAt Go.RowKit
open Go.ChangeMaps (open_string shut_string)
open Go.Proofs.YtgfigkfcmkdjdaaGreatDoor.B Go.Proofs.YtgfigkfcmkdjdaaGreatDoorW.PrintWords Go.Proofs.YtgfigkfcmkdjdaaGreatDoorW.PrintLast
set_option linter.unusedVariables false
theorem own : ownKnob Tryz.prog.godebug = none := by kernel_rfl
theorem laidOut : laidOutB Tryz.prog = true := by kernel_rfl
def laidL : List (String × DataW Unit) := Rows.askDecodesRow.laid
theorem gpow : Tryz.prog.globalNamed "internal/strconv.uint64pow10" = some 0 := by kernel_rfl
theorem tpow : (Tryz.prog.globals[0]?).map (·.type) = some 150 := by kernel_rfl
/-- What the condition gives: the table of powers. -/
theorem of_laid {W : World} (h : laidMetH Tryz.prog laidL W) : Lib.TabIs Tryz.prog W "internal/strconv.uint64pow10" .u64 Lib.pow10Tab := by
  rw [MakeChecks.laidMetH_plain _ _ _ (by kernel_rfl)] at h
  exact Lib.tabIs_of_head gpow tpow Tryz.underlying150 Tryz.underlying136 (by kernel_rfl) (by kernel_rfl) ((h.tail).tail)
set_option maxRecDepth 100000 in
theorem lifted (os : Os) (started : os.Started) (H : Type) (enc : TypeId × Value → H) :
    ReturnsInHanded {} Tryz.checked os 4 .any (fun w args => (Rows.askDecodesSpec.pre enc Tryz.prog Tryz.f4 [] false w args ∧ laidMetH Tryz.prog laidL w) ∧ sizedMet enc Tryz.prog Tryz.f4 (OpenSpec.ofChange Rows.askDecodesSpec) false w args) (Rows.askDecodesSpec.post enc Tryz.prog Tryz.f4 false true false false) := by
  refine B.handed_shaped (C := Tryz.checked) (X := fun w => laidMetH Tryz.prog laidL w) (fun _ _ hh h => h.of_heap hh) own started (by kernel_rfl) Tryz.func4
    (ChangeSpec.witness_shaped (enc := enc) (C := Tryz.checked) (os := os) (X := fun w _ => laidMetH Tryz.prog laidL w) false (World.laidAll Tryz.prog os laidL) #[.string ByteArray.empty] 8 (World.laidAll_os _ _ _) (World.shaped_of_ZipB (by kernel_rfl) (by kernel_rfl)) (by kernel_rfl) (by kernel_rfl) (by kernel_rfl) (by rw [MakeChecks.laidMetH_plain _ _ _ (by kernel_rfl)]; exact laidMet_laidAll _ (by kernel_rfl) (by kernel_rfl))) ?_
  intro W base args ds gs before hval0 hW hcnd hsz0 hL hsh
  have hsz : (DataW.weightsEach Tryz.prog (Tryz.f4.params.toList ++ Rows.askDecodesSpec.plain.varTypes Tryz.prog) (ds ++ gs)).all (· ≤ reachBytes) = true := hsz0
  have hval : ∀ (j : Nat) t v, Tryz.f4.params[j]? = some t → args[j]? = some v → Value.okWide Tryz.prog W .any base t v := hval0
  have hW' := hW
  obtain ⟨p, q, hA0, hV, rfl, hfz, hnd⟩ := hW
  have hA : DataW.TrodAll enc Tryz.prog W 0 (fun _ => true) true Tryz.f4.params.toList args.toList ds p := hA0
  rw [Tryz.params4] at hA hval hsz
  obtain ⟨v0, vs0, d0, ds0, p0, q0, hargs, rfl, rfl, h0, r0⟩ := trodAll_cons hA
  obtain ⟨rfl, rfl, rfl⟩ := trodAll_nil r0
  obtain rfl : args = #[v0] := by cases args; simp_all
  obtain ⟨rfl, rfl⟩ := trodVars_none hV
  obtain ⟨a0, rfl, rfl, rfl, y0⟩ := open_string Tryz.underlying9 (hval 0 9 v0 rfl rfl) h0
  have w0 : a0.size ≤ 140737488351232 := by
    have z := sized_string hsz (j := 0) (t := 9) rfl rfl
    rw [Array.length_toList] at z
    exact z
  clear hA0 hval0 hsz0 hsz
  have hq := Pure.AskDecodes a0 w0
  refine (spigotlaw12_AskDecodes.calls a0 true W ⟨⟨of_laid hL, Tryz.laysM146.s1_3 W hsh⟩⟩  hq).mono ?_
  rintro e W' ⟨rfl, bel0⟩
  have bel := bel0
  exact ⟨_, rfl, _, _, _, [], _, [], hW', trodAll_mk1 (shut_bool Tryz.underlying4 _), (trodAll_cons_mk (shut_string Tryz.underlying9 y0) trodAll_mk0), rfl, bel.frame _, fun h => by cases h⟩
theorem over : Rows.askDecodesRow.holds Tryz.pinned (OpenSpec.ofChange Rows.askDecodesSpec) :=
  OpenClaim.holds_of_wide 4 Tryz.f4 rfl rfl rfl rfl rfl rfl rfl ⟨rfl, rfl, rfl, rfl, rfl⟩ rfl rfl rfl rfl rfl (by kernel_rfl) Tryz.func4 (by kernel_rfl)
    (of_decide_eq_true (by kernel_rfl)) (by unfold Func.isWrapper; first | (rw [if_pos (by decide +kernel)]; kernel_rfl) | (rw [if_neg (by decide +kernel)]; exact ⟨rfl, rfl⟩))
    (fun os started H enc _ => lifted os started H enc)
theorem proved : Rows.AskDecodesSaid := over
theorem card : Rows.AskDecodesCardSaid :=
  Claim7.holds_tied_plain_at .later [] [.data, .data, .data, .data, .pinned] true (true, "303745f1421758bb51cff2e83539bd57c16f82fa425f9177a6c154d14db7109a") true
    over (fun _ h => by cases h) (by kernel_rfl) (fun _ h => by cases h) askDecodes_row_tie rfl ⟨rfl, rfl⟩ (by kernel_rfl) rfl
    (fun f fn hf hfn => by
      obtain rfl : f = 4 := Option.some.inj ((show Tryz.prog.funcNamed "spigot/spigotlaw12.AskDecodes" = some 4 by kernel_rfl).symm.trans hf) |>.symm
      obtain rfl : fn = Tryz.f4 := (Option.some.inj (Tryz.func4.symm.trans hfn)).symm
      exact ⟨by kernel_rfl, fun j t ht => by
        rw [Tryz.params4] at ht
        have hm : t ∈ [9] := by simpa using Array.mem_of_getElem? ht
        have hall : ([9].all fun u => !Tryz.prog.wantsStandIn u) = true := by kernel_rfl
        exact (show Tryz.prog.wantsStandIn t = false by simpa using List.all_eq_true.1 hall t hm)⟩)
    (by kernel_rfl)
#print axioms card
end Go.Proofs.YtgfigkfcmkdjdaaGreatDoor.askDecodes
namespace Go.Proofs.YtgfigkfcmkdjdaaGreatDoor
/-- The row, under a short name, for the claim. -/
theorem askDecodes_holds : Rows.AskDecodesCardSaid := askDecodes.card
end Go.Proofs.YtgfigkfcmkdjdaaGreatDoor
