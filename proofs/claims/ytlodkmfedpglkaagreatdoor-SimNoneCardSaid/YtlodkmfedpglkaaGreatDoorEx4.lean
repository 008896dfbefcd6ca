/- Each Go function that the laws of this seat reach, as a plain Lean function, and its contract: the machine's call does what that function says. -/
import Derived.Test.YtlodkmfedpglkaaGreatDoorEx0
import Derived.Test.YtlodkmfedpglkaaGreatDoorEx1
import Derived.Test.YtlodkmfedpglkaaGreatDoorEx3
namespace Go.Proofs.YtlodkmfedpglkaaGreatDoor.E
open Go.RowKit Go.Proofs.YtlodkmfedpglkaaGreatDoorW.PrintWords Go.Proofs.YtlodkmfedpglkaaGreatDoorW.PrintLast Go.Proofs.YtlodkmfedpglkaaGreatDoorW.PrintMore
attribute [local go_sem] max2_int min2_int max_two min_two max_three min_three max_four min_four   -- for this text's walks alone
set_option linter.unusedVariables false
set_option linter.unusedSimpArgs false

--PART
/-! ### spigotlaw33_SimNone: function 4 -/
-- rests on 6
open Go.Ev
/-- Which functions are gone through in all ways. -/
def spN (f : FuncId) : Bool := f == 4 || f == 7
/-- What is told of the example. -/
def hookN : Hook := fun f l => if f = 6 then (match l with
  | [] => some (.bool true)
  | _ => none) else none
theorem hookN_ok (w : World) (hT_ : Aside0 (Tabs_ w)) : HookOk Tryz.prog w hookN := by
  intro f args v h
  unfold hookN at h
  split at h
  case isFalse => cases h
  rename_i e
  subst e
  split at h
  case h_2 => cases h
  obtain rfl := Option.some.inj h
  exact ⟨⟨_, Tryz.func6, by kernel_rfl, by kernel_rfl⟩, fun w' hb => spigotlaw33_awake.calls true w' (Aside0.mk (hT_.out.below hb)) rfl⟩
set_option maxRecDepth 1000000 in
theorem none_eval : allTrue (evCallN hookN spN (envOf Tryz.prog extS) 1000 4 [.agg ⟨[unkI, unkI, unkS, unkI, unkI, unkI, unkS, unkI, unkI, unkS, unkS, unkI, unkI, unkI]⟩] H.empty) = true := by kernel_rfl
def spigotlaw33_SimNone.f (a0_0 : Int) (a0_1 : Int) (a0_2 : ByteArray) (a0_3 : Int) (a0_4 : Int) (a0_5 : Int) (a0_6 : ByteArray) (a0_7 : Int) (a0_8 : Int) (a0_9 : ByteArray) (a0_10 : ByteArray) (a0_11 : Int) (a0_12 : Int) (a0_13 : Int) : Option Bool := some true
theorem spigotlaw33_SimNone.calls (a0_0 : Int) (a0_1 : Int) (a0_2 : ByteArray) (a0_3 : Int) (a0_4 : Int) (a0_5 : Int) (a0_6 : ByteArray) (a0_7 : Int) (a0_8 : Int) (a0_9 : ByteArray) (a0_10 : ByteArray) (a0_11 : Int) (a0_12 : Int) (a0_13 : Int) (r : Bool) (w : World) (hT_ : Aside0 (Tabs_ w))  (h : spigotlaw33_SimNone.f a0_0 a0_1 a0_2 a0_3 a0_4 a0_5 a0_6 a0_7 a0_8 a0_9 a0_10 a0_11 a0_12 a0_13 = some r) :
    Calls Tryz.prog 4 #[.agg #[.int .i64 a0_0, .int .i64 a0_1, .string a0_2, .int .i64 a0_3, .int .i64 a0_4, .int .i64 a0_5, .string a0_6, .int .i64 a0_7, .int .i64 a0_8, .string a0_9, .string a0_10, .int .i64 a0_11, .int .i64 a0_12, .int .i64 a0_13]] w fun e w' => e = .returned (.bool r) ∧ Below w.heap.size w w' := by
  obtain rfl := Option.some.inj h
  have hmx : Tryz.prog.follows .mixedOrders = true := by kernel_rfl
  exact calls_of_evalN (envOf_ok Tryz.prog extS extS_ok hmx) hmx (hookN_ok w hT_) (sp := spN) (n := 1000) (args := [.agg ⟨[unkI, unkI, unkS, unkI, unkI, unkI, unkS, unkI, unkI, unkS, unkS, unkI, unkI, unkI]⟩]) none_eval (.cons (.agg (.cons (.unkI _) (.cons (.unkI _) (.cons (.unkS _) (.cons (.unkI _) (.cons (.unkI _) (.cons (.unkI _) (.cons (.unkS _) (.cons (.unkI _) (.cons (.unkI _) (.cons (.unkS _) (.cons (.unkS _) (.cons (.unkI _) (.cons (.unkI _) (.cons (.unkI _) .nil))))))))))))))) .nil)

end Go.Proofs.YtlodkmfedpglkaaGreatDoor.E
