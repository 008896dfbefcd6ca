/- Each Go function that the laws of this seat reach, as a plain Lean function, and its contract: the machine's call does what that function says. -/
import Derived.Test.YtbejjoogefleeaaGreatDoorEx0
import Derived.Test.YtbejjoogefleeaaGreatDoorEx1
import Derived.Test.YtbejjoogefleeaaGreatDoorEx2
namespace Go.Proofs.YtbejjoogefleeaaGreatDoor.E
open Go.RowKit Go.Proofs.YtbejjoogefleeaaGreatDoorW.PrintWords Go.Proofs.YtbejjoogefleeaaGreatDoorW.PrintLast Go.Proofs.YtbejjoogefleeaaGreatDoorW.PrintMore
attribute [local go_sem] max2_int min2_int max_two min_two max_three min_three max_four min_four   -- for this text's walks alone
set_option linter.unusedVariables false
set_option linter.unusedSimpArgs false

--PART
/-! ### spigotlaw28_awake: function 8 -/
-- rests on 230
open Go.Ev
def extS (f : FuncId) : Option ExtOp := if f = 290 then some .add64 else if f = 258 then some .sub64 else none
theorem extS_ok : ∀ f k, extS f = some k → ExtOk Tryz.prog f k := by
  intro f k h
  unfold extS at h
  split at h
  · rename_i e
    subst e
    obtain rfl := Option.some.inj h
    exact ⟨_, Tryz.func290, by kernel_rfl, by kernel_rfl, by kernel_rfl, by kernel_rfl⟩
  split at h
  · rename_i e
    subst e
    obtain rfl := Option.some.inj h
    exact ⟨_, Tryz.func258, by kernel_rfl, by kernel_rfl, by kernel_rfl, by kernel_rfl⟩
  cases h
/-- A number's digits, in a form that the kernel reckons. -/
def digs : Nat → Nat → List UInt8 → List UInt8
  | 0, _, l => l
  | k + 1, n, l => if n < 10 then UInt8.ofNat (48 + n) :: l else digs k (n / 10) (UInt8.ofNat (48 + n % 10) :: l)
theorem digs_eq : ∀ (k n : Nat) (l : List UInt8), n < 10 ^ k → 0 < k → digs k n l = digitsN n ++ l
  | 0, _, _, _, h => absurd h (Nat.lt_irrefl 0)
  | k + 1, n, l, h, _ => by
    unfold digs
    by_cases c : n < 10
    · rw [if_pos c, digitsN_small c]; rfl
    · rw [if_neg c]
      have hk : 0 < k := by
        rcases Nat.eq_zero_or_pos k with g | g
        · subst g; simp at h; omega
        · exact g
      rw [digs_eq k (n / 10) _ (Nat.div_lt_of_lt_mul (by rw [Nat.pow_succ, Nat.mul_comm] at h; exact h)) hk, digitsN_step (n := n) (by omega)]
      simp
/-- What is told of strconv.Itoa. -/
def hookS : Hook := fun f l => if f = 230 then (match l with
  | [.int .i64 n] => if 0 ≤ n ∧ n ≤ 9223372036854775807 then some (.string ⟨(digs 20 n.toNat []).toArray⟩) else none
  | _ => none) else none
theorem hookS_ok (w : World) (hT_ : Aside0 (Tabs_ w)) : HookOk Tryz.prog (.all w) hookS := by
  intro f args v h
  unfold hookS at h
  split at h
  case isFalse => cases h
  rename_i e
  subst e
  split at h
  case h_2 => cases h
  rename_i n
  split at h
  case isFalse => cases h
  rename_i hn
  obtain rfl := Option.some.inj h
  refine ⟨⟨_, Tryz.func230, by kernel_rfl, by kernel_rfl⟩, fun w' hb => ?_⟩
  refine strconv_Itoa.calls n _ w' (Aside0.mk (hT_.out.below (Base.all_kept.1 hb))) ?_
  unfold strconv_Itoa.f
  rw [if_pos hn]
  have : n.toNat < 10 ^ 20 := by
    have e : (10 : Nat) ^ 20 = 100000000000000000000 := by decide
    omega
  rw [digs_eq 20 n.toNat [] this (by decide), List.append_nil]
  rfl
set_option maxRecDepth 1000000 in
theorem awake_eval : endsTrue (evCall hookS (envOf Tryz.prog extS) 1000 8 [] H.empty) = true := by kernel_rfl
def spigotlaw28_awake.f : Option Bool := some true
theorem spigotlaw28_awake.calls (r : Bool) (w : World) (hT_ : Aside0 (Tabs_ w)) (h : spigotlaw28_awake.f = some r) :
    Calls Tryz.prog 8 #[] w fun e w' => e = .returned (.bool r) ∧ Below w.heap.size w w' := by
  obtain rfl := Option.some.inj h
  have hmx : Tryz.prog.follows .mixedOrders = true := by kernel_rfl
  exact calls_of_evalT (n := 1000) (args := []) (envOf_ok Tryz.prog extS extS_ok hmx) hmx (hookS_ok w hT_) awake_eval rfl

end Go.Proofs.YtbejjoogefleeaaGreatDoor.E
