/- Each Go function that the laws of this seat reach, as a plain Lean function, and its contract: the machine's call does what that function says. -/
import Derived.Test.YtgfigkfcmkdjdaaDoorRows
import Derived.Test.YtgfigkfcmkdjdaaDoorzAskBack2
import Derived.Test.YtgfigkfcmkdjdaaDoorzAskBack0
import Derived.Test.YtgfigkfcmkdjdaaDoorzAskBack1
import Derived.Test.YtgfigkfcmkdjdaaDoorzAskBack3
import Derived.Test.YtgfigkfcmkdjdaaDoorzAskBack4
import Derived.Test.YtgfigkfcmkdjdaaDoorzAskBack5
import Derived.Test.YtgfigkfcmkdjdaaDoorzAskBack6
import Derived.Test.YtgfigkfcmkdjdaaDoorzAskBack7
import Derived.Test.YtgfigkfcmkdjdaaDoorzAskBack8
import Derived.Test.YtgfigkfcmkdjdaaDoorzAskBack9
import Derived.Test.YtgfigkfcmkdjdaaDoorzAskBack10
import Derived.Test.YtgfigkfcmkdjdaaDoorzAskBack11
import Derived.Test.YtgfigkfcmkdjdaaDoorzAskBack12
import Derived.Test.YtgfigkfcmkdjdaaDoorzAskBack13
import Derived.Test.YtgfigkfcmkdjdaaDoorzAskBack14
import Derived.Test.YtgfigkfcmkdjdaaDoorzAskBack15
import Derived.Test.YtgfigkfcmkdjdaaDoorzAskBack16
import Derived.Test.YtgfigkfcmkdjdaaDoorzAskBack17
import Derived.Test.YtgfigkfcmkdjdaaDoorzAskBack18
import Derived.Test.YtgfigkfcmkdjdaaDoorzAskBack19
import Derived.Test.YtgfigkfcmkdjdaaDoorzAskBack20
import Derived.Test.YtgfigkfcmkdjdaaDoorzAskBack21
import Derived.Test.YtgfigkfcmkdjdaaDoorPureAskSound
import Derived.Test.YtgfigkfcmkdjdaaDoorTie
import Derived.Test.YtgfigkfcmkdjdaaDoorCards
import Derived.WalkKit
import Derived.LaidMore
import Derived.Lay
import Derived.MakeChecks
import Derived.Stop.Joined
import Derived.Stop.LaidErr
import Derived.SevenTiedAt
import Derived.Lib.LaidTab
import Derived.ProofKit
import Derived.OpenShut
import Derived.ShutString
import Derived.ChangeOld
import Derived.Below
import Derived.SizedLaws
namespace Go.Proofs.YtgfigkfcmkdjdaaDoor.askSound
open Go.ChangeShapes Go.WideShapes Go.ChangeAt Go.RowKit
open Go.ChangeMaps (open_string shut_string)
open Go.Proofs.YtgfigkfcmkdjdaaDoor.B Go.Proofs.YtgfigkfcmkdjdaaDoorW.PrintWords Go.Proofs.YtgfigkfcmkdjdaaDoorW.PrintLast
set_option linter.unusedVariables false
theorem own : ownKnob Tryd.prog.godebug = none := by kernel_rfl
theorem laidOut : laidOutB Tryd.prog = true := by kernel_rfl
def laidL : List (String × DataW Unit) := Rows.askSoundRow.laid
theorem gpow : Tryd.prog.globalNamed "internal/strconv.uint64pow10" = some 0 := by kernel_rfl
theorem tpow : (Tryd.prog.globals[0]?).map (·.type) = some 200 := by kernel_rfl
/-- What the condition gives: the table of powers. -/
theorem of_laid {W : World} (h : laidMetH Tryd.prog laidL W) : Lib.TabIs Tryd.prog W "internal/strconv.uint64pow10" .u64 Lib.pow10Tab := by
  rw [MakeChecks.laidMetH_plain _ _ _ (by kernel_rfl)] at h
  exact Lib.tabIs_of_head gpow tpow Tryd.underlying200 Tryd.underlying186 (by kernel_rfl) (by kernel_rfl) ((h.tail).tail)
set_option maxRecDepth 100000 in
theorem lifted (os : Os) (started : os.Started) (H : Type) (enc : TypeId × Value → H) :
    ReturnsInHanded {} Tryd.checked os 12 .any (fun w args => (Rows.askSoundSpec.pre enc Tryd.prog Tryd.f12 [] false w args ∧ laidMetH Tryd.prog laidL w) ∧ sizedMet enc Tryd.prog Tryd.f12 (OpenSpec.ofChange Rows.askSoundSpec) false w args) (Rows.askSoundSpec.post enc Tryd.prog Tryd.f12 false true false false) := by
  refine B.handed_shaped (C := Tryd.checked) (X := fun w => laidMetH Tryd.prog laidL w) (fun _ _ hh h => h.of_heap hh) own started (by kernel_rfl) Tryd.func12
    (ChangeSpec.witness_shaped (enc := enc) (C := Tryd.checked) (os := os) (X := fun w _ => laidMetH Tryd.prog laidL w) false (World.laidAll Tryd.prog os laidL) #[.string ByteArray.empty] 8 (World.laidAll_os _ _ _) (World.shaped_of_ZipB (by kernel_rfl) (by kernel_rfl)) (by kernel_rfl) (by kernel_rfl) (by kernel_rfl) (by rw [MakeChecks.laidMetH_plain _ _ _ (by kernel_rfl)]; exact laidMet_laidAll _ (by kernel_rfl) (by kernel_rfl))) ?_
  intro W base args ds gs before hval0 hW hcnd hsz0 hL hsh
  have hsz : (DataW.weightsEach Tryd.prog (Tryd.f12.params.toList ++ Rows.askSoundSpec.plain.varTypes Tryd.prog) (ds ++ gs)).all (· ≤ reachBytes) = true := hsz0
  have hval : ∀ (j : Nat) t v, Tryd.f12.params[j]? = some t → args[j]? = some v → Value.okWide Tryd.prog W .any base t v := hval0
  have hW' := hW
  obtain ⟨p, q, hA0, hV, rfl, hfz, hnd⟩ := hW
  have hA : DataW.TrodAll enc Tryd.prog W 0 (fun _ => true) true Tryd.f12.params.toList args.toList ds p := hA0
  rw [Tryd.params12] at hA hval hsz
  obtain ⟨v0, vs0, d0, ds0, p0, q0, hargs, rfl, rfl, h0, r0⟩ := trodAll_cons hA
  obtain ⟨rfl, rfl, rfl⟩ := trodAll_nil r0
  obtain rfl : args = #[v0] := by cases args; simp_all
  obtain ⟨rfl, rfl⟩ := trodVars_none hV
  obtain ⟨a0, rfl, rfl, rfl, y0⟩ := open_string Tryd.underlying9 (hval 0 9 v0 rfl rfl) h0
  have w0 : a0.size ≤ 140737488351232 := by
    have z := sized_string hsz (j := 0) (t := 9) rfl rfl
    rw [Array.length_toList] at z
    exact z
  clear hA0 hval0 hsz0 hsz
  have hq := Pure.AskSound a0 w0
  refine (spigotlaw12_AskSound.calls a0 true W ⟨⟨of_laid hL, Tryd.laysM146.s1_3 W hsh⟩⟩  hq).mono ?_
  rintro e W' ⟨rfl, bel0⟩
  have bel := bel0
  exact ⟨_, rfl, _, _, _, [], _, [], hW', trodAll_mk1 (shut_bool Tryd.underlying4 _), (trodAll_cons_mk (shut_string Tryd.underlying9 y0) trodAll_mk0), rfl, bel.frame _, fun h => by cases h⟩
theorem over : Rows.askSoundRow.holds Tryd.pinned (OpenSpec.ofChange Rows.askSoundSpec) :=
  OpenClaim.holds_of_wide 12 Tryd.f12 rfl rfl rfl rfl rfl rfl rfl ⟨rfl, rfl, rfl, rfl, rfl⟩ rfl rfl rfl rfl rfl (by kernel_rfl) Tryd.func12 (by kernel_rfl)
    (of_decide_eq_true (by kernel_rfl)) (by unfold Func.isWrapper; first | (rw [if_pos (by decide +kernel)]; kernel_rfl) | (rw [if_neg (by decide +kernel)]; exact ⟨rfl, rfl⟩))
    (fun os started H enc _ => lifted os started H enc)
theorem proved : Rows.AskSoundSaid := over
theorem card : Rows.AskSoundCardSaid :=
  Claim7.holds_tied_plain_at .later [] [.data, .data, .data, .data, .pinned] true (true, "a1b82ef27e1c5177091d6f44d8ab2ca89c883a9cd7d8b2800ad4ec8d9a0e86b3") true
    over (fun _ h => by cases h) (by kernel_rfl) (fun _ h => by cases h) askSound_row_tie rfl ⟨rfl, rfl⟩ (by kernel_rfl) rfl
    (fun f fn hf hfn => by
      obtain rfl : f = 12 := Option.some.inj ((show Tryd.prog.funcNamed "spigot/spigotlaw12.AskSound" = some 12 by kernel_rfl).symm.trans hf) |>.symm
      obtain rfl : fn = Tryd.f12 := (Option.some.inj (Tryd.func12.symm.trans hfn)).symm
      exact ⟨by kernel_rfl, fun j t ht => by
        rw [Tryd.params12] at ht
        have hm : t ∈ [9] := by simpa using Array.mem_of_getElem? ht
        have hall : ([9].all fun u => !Tryd.prog.wantsStandIn u) = true := by kernel_rfl
        exact (show Tryd.prog.wantsStandIn t = false by simpa using List.all_eq_true.1 hall t hm)⟩)
    (by kernel_rfl)
#print axioms card
end Go.Proofs.YtgfigkfcmkdjdaaDoor.askSound
namespace Go.Proofs.YtgfigkfcmkdjdaaDoor
/-- The row, under a short name, for the claim. -/
theorem askSound_holds : Rows.AskSoundCardSaid := askSound.card
end Go.Proofs.YtgfigkfcmkdjdaaDoor
