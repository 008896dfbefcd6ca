/- Each Go function that the laws of this seat reach, as a plain Lean function, and its contract: the machine's call does what that function says. -/
import Derived.Test.YtbejjoogefleeaaGreatDoorEx0
import Derived.Test.YtbejjoogefleeaaGreatDoorEx1
import Derived.Test.YtbejjoogefleeaaGreatDoorEx3
namespace Go.Proofs.YtbejjoogefleeaaGreatDoor.E
open Go.RowKit Go.Proofs.YtbejjoogefleeaaGreatDoorW.PrintWords Go.Proofs.YtbejjoogefleeaaGreatDoorW.PrintLast Go.Proofs.YtbejjoogefleeaaGreatDoorW.PrintMore
attribute [local go_sem] max2_int min2_int max_two min_two max_three min_three max_four min_four   -- for this text's walks alone
set_option linter.unusedVariables false
set_option linter.unusedSimpArgs false

--PART
/-! ### spigotlaw28_ParentNone: function 5 -/
-- rests on 8
open Go.Ev
/-- Which functions are gone through in all ways. -/
def spN (f : FuncId) : Bool := f == 5 || f == 14
/-- What is told of the example. -/
def hookN : Hook := fun f l => if f = 8 then (match l with
  | [] => some (.bool true)
  | _ => none) else none
theorem hookN_ok (w : World) (hT_ : Aside0 (Tabs_ w)) : HookOk Tryz.prog (.all w) hookN := by
  intro f args v h
  unfold hookN at h
  split at h
  case isFalse => cases h
  rename_i e
  subst e
  split at h
  case h_2 => cases h
  obtain rfl := Option.some.inj h
  exact ⟨⟨_, Tryz.func8, by kernel_rfl, by kernel_rfl⟩, fun w' hb => spigotlaw28_awake.calls true w' (Aside0.mk (hT_.out.below (Base.all_kept.1 hb))) rfl⟩
set_option maxRecDepth 1000000 in
theorem none_eval : allTrue (evCallN hookN spN (envOf Tryz.prog extS) 1000 5 [.agg ⟨[unkI, unkI, unkI, unkI, unkI, unkB, unkI, unkI, unkS, unkS, unkI, unkI, unkS, unkL]⟩] H.empty) = true := by kernel_rfl
def spigotlaw28_ParentNone.f (a0_0 : Int) (a0_1 : Int) (a0_2 : Int) (a0_3 : Int) (a0_4 : Int) (a0_5 : Bool) (a0_6 : Int) (a0_7 : Int) (a0_8 : ByteArray) (a0_9 : ByteArray) (a0_10 : Int) (a0_11 : Int) (a0_12 : ByteArray) (l0_13 : List S135) : Option Bool := some true
theorem spigotlaw28_ParentNone.calls (a0_0 : Int) (a0_1 : Int) (a0_2 : Int) (a0_3 : Int) (a0_4 : Int) (a0_5 : Bool) (a0_6 : Int) (a0_7 : Int) (a0_8 : ByteArray) (a0_9 : ByteArray) (a0_10 : Int) (a0_11 : Int) (a0_12 : ByteArray) (A0_13 : Option Addr) (c0_13 : Nat) (l0_13 : List S135) (r : Bool) (w : World) (hT_ : Aside0 (Tabs_ w)) (hr0_13 : Kd.C k135 w A0_13 l0_13.length l0_13) (hc0_13 : l0_13.length ≤ c0_13) (h : spigotlaw28_ParentNone.f a0_0 a0_1 a0_2 a0_3 a0_4 a0_5 a0_6 a0_7 a0_8 a0_9 a0_10 a0_11 a0_12 l0_13 = some r) :
    Calls Tryz.prog 5 #[.agg #[.int .i64 a0_0, .int .i64 a0_1, .int .i64 a0_2, .int .i64 a0_3, .int .i64 a0_4, .bool a0_5, .int .i64 a0_6, .int .i64 a0_7, .string a0_8, .string a0_9, .int .i64 a0_10, .int .i64 a0_11, .string a0_12, .slice A0_13 l0_13.length c0_13]] w fun e w' => e = .returned (.bool r) ∧ Below w.heap.size w w' := by
  obtain rfl := Option.some.inj h
  have hmx : Tryz.prog.follows .mixedOrders = true := by kernel_rfl
  exact calls_of_evalN (envOf_ok Tryz.prog extS extS_ok hmx) hmx (hookN_ok w hT_) (sp := spN) (n := 1000) (args := [.agg ⟨[unkI, unkI, unkI, unkI, unkI, unkB, unkI, unkI, unkS, unkS, unkI, unkI, unkS, unkL]⟩]) none_eval (.cons (.agg (.cons (.unkI _) (.cons (.unkI _) (.cons (.unkI _) (.cons (.unkI _) (.cons (.unkI _) (.cons (.unkB _) (.cons (.unkI _) (.cons (.unkI _) (.cons (.unkS _) (.cons (.unkS _) (.cons (.unkI _) (.cons (.unkI _) (.cons (.unkS _) (.cons (.unkL _ _ _) .nil))))))))))))))) .nil)

end Go.Proofs.YtbejjoogefleeaaGreatDoor.E
