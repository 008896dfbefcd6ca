/- Each Go function that the laws of this seat reach, as a plain Lean function, and its contract: the machine's call does what that function says. -/
import Derived.Test.YtbejjoogefleeaaGreatDoorEx0
namespace Go.Proofs.YtbejjoogefleeaaGreatDoor.E
open Go.RowKit Go.Proofs.YtbejjoogefleeaaGreatDoorW.PrintWords Go.Proofs.YtbejjoogefleeaaGreatDoorW.PrintLast Go.Proofs.YtbejjoogefleeaaGreatDoorW.PrintMore
attribute [local go_sem] max2_int min2_int max_two min_two max_three min_three max_four min_four   -- for this text's walks alone
set_option linter.unusedVariables false
set_option linter.unusedSimpArgs false

--PART
/-! ### Plain words on bytes and numbers -/
def big : Nat := 4611686018427387904
theorem w64 {x : Int} (h0 : -9223372036854775808 ≤ x) (h1 : x ≤ 9223372036854775807) : wrap64 x = x := by
  unfold wrap64; omega
theorem bt_get (s : ByteArray) (i : Nat) (h : i < s.data.toList.length) : bt s (i : Int) = ((s.data.toList[i]).toNat : Int) := by
  have h2 : i < s.size := h
  unfold bt
  rw [dif_pos (by simpa using h2)]
  rfl
theorem size_list (s : ByteArray) : s.data.toList.length = s.size := rfl
theorem ba_ext {a b : ByteArray} (h : a.data.toList = b.data.toList) : a = b := by
  cases a; cases b; simpa using h
theorem u8_lt (b : UInt8) : b.toNat < 256 := b.toNat_lt
/-- The bytes' sum. -/
def bsum (l : List UInt8) : Nat := (l.map UInt8.toNat).sum
theorem bsum_nil : bsum [] = 0 := rfl
theorem bsum_cons (b : UInt8) (l : List UInt8) : bsum (b :: l) = b.toNat + bsum l := by simp [bsum]
theorem bsum_append (a b : List UInt8) : bsum (a ++ b) = bsum a + bsum b := by simp [bsum]
/-- A text's sum. -/
def sumOf (s : ByteArray) : Int := ((bsum s.data.toList % 256 : Nat) : Int)
theorem w01 : wrap64 (0 + 1) = 1 := by rw [w64 (by omega) (by omega)]; rfl
theorem w12 : wrap64 (1 + 1) = 2 := by rw [w64 (by omega) (by omega)]; rfl
theorem w23 : wrap64 (2 + 1) = 3 := by rw [w64 (by omega) (by omega)]; rfl
theorem sz_lit (l : List UInt8) : (⟨l.toArray⟩ : ByteArray).size = l.length := by simp [ByteArray.size]
theorem w64_sum1 (a b : Nat) (h : a + b ≤ 9223372036854775806) : wrap64 (wrap64 ((a : Int) + (b : Int)) + 1) = ((a + b + 1 : Nat) : Int) := by
  rw [w64 (x := (a : Int) + (b : Int)) (by omega) (by omega), w64 (by omega) (by omega)]; omega

/-! ### A number's digits -/
def digitsN (n : Nat) : List UInt8 := if n < 10 then [UInt8.ofNat (48 + n)] else digitsN (n / 10) ++ [UInt8.ofNat (48 + n % 10)]
termination_by n
theorem digitsN_small {n : Nat} (h : n < 10) : digitsN n = [UInt8.ofNat (48 + n)] := by rw [digitsN, if_pos h]
theorem digitsN_step {n : Nat} (h : 10 ≤ n) : digitsN n = digitsN (n / 10) ++ [UInt8.ofNat (48 + n % 10)] := by rw [digitsN, if_neg (by omega)]
/-- The digits of a number from 0 on, as a text. -/
def digitsB (n : Int) : ByteArray := ⟨(digitsN n.toNat).toArray⟩
theorem digitsN_pos (n : Nat) : 1 ≤ (digitsN n).length := by
  by_cases h : n < 10
  · rw [digitsN_small h]; simp
  · rw [digitsN_step (by omega)]; simp
/-- How many digits a number below a power of ten has at most. -/
theorem digitsN_len (d : Nat) : ∀ n, n < 10 ^ (d + 1) → (digitsN n).length ≤ d + 1 := by
  induction d with
  | zero => intro n h; rw [digitsN_small (by simpa using h)]; simp
  | succ d ih =>
    intro n h
    by_cases hn : n < 10
    · rw [digitsN_small hn]; simp
    · rw [digitsN_step (by omega)]
      have := ih (n / 10) (by rw [Nat.div_lt_iff_lt_mul (by omega)]; rw [Nat.pow_succ] at h; omega)
      simp; omega
theorem digitsB_list (n : Int) : (digitsB n).data.toList = digitsN n.toNat := by simp [digitsB]
theorem digitsB_size (n : Int) : (digitsB n).size = (digitsN n.toNat).length := by rw [← size_list, digitsB_list]
theorem digitsB_pos (n : Int) : 1 ≤ (digitsB n).size := by rw [digitsB_size]; exact digitsN_pos _
theorem digitsB_20 (n : Int) (h1 : n ≤ 9223372036854775807) : (digitsB n).size ≤ 20 := by
  rw [digitsB_size]; exact digitsN_len 19 _ (by omega)
theorem strOfNums_list (l : List Int) : (strOfNums l).data.toList = l.map fun n => UInt8.ofNat n.toNat := rfl

/-! ### The library's table of powers, which 'strconv.Itoa' reads -/
/-- In this world the table of powers is as the program's text lays it. -/
structure Tabs_ (w : World) : Prop where mk :: (tab : Lib.TabIs Tryz.prog w "internal/strconv.uint64pow10" .u64 Lib.pow10Tab)
theorem Tabs_.below {w w' : World} (h : Tabs_ w) (hb : Below w.heap.size w w') : Tabs_ w' := ⟨(Lib.tabBelow_of_tabIs h.tab) w' hb⟩
theorem decDigits_digitsN (n : Nat) : Lib.decDigits n = digitsN n := by
  induction n using Nat.strongRecOn with
  | _ n ih =>
    by_cases h : n < 10
    · rw [Lib.decDigits_one h, digitsN_small h]
    · rw [digitsN_step (by omega), ← ih (n / 10) (by omega), Lib.decDigits, dif_neg h]

/-! ### Arguments of whatever shape, opened -/
/-- What reads as data of the type t is of the kind d, and right. -/
def Opn {α : Type} (P : Program) (w : World) (t : TypeId) (d : Kd α) (ok : α → Prop) : Prop :=
  ∀ (H : Type) (enc : TypeId × Value → H) (fuel : Nat) (cs : List Value) (x : DataW H × List MemPlace), DataW.trod enc P w 0 (fun _ => true) true fuel t cs = some x → ∃ a, d.K w a cs ∧ ok a
theorem opn_int {P : Program} {w : World} {t : TypeId} {k : IntKind} (hu : P.underlying t = some (.int k)) : Opn P w t (Kd.int k) (fun n => (Lit.int k n).wf = true) := by
  intro H enc fuel cs x h
  obtain ⟨n, rfl, _, hw⟩ := DataW.trod_int hu h
  exact ⟨n, rfl, hw⟩
theorem opn_bool {P : Program} {w : World} {t : TypeId} (hu : P.underlying t = some .bool) : Opn P w t Kd.bool (fun _ => True) := by
  intro H enc fuel cs x h
  obtain ⟨n, rfl, _⟩ := DataW.trod_bool hu h
  exact ⟨n, rfl, trivial⟩
theorem opn_string {P : Program} {w : World} {t : TypeId} (hu : P.underlying t = some .string) : Opn P w t Kd.string (fun s => s.size ≤ 9223372036854775807) := by
  intro H enc fuel cs x h
  obtain ⟨n, rfl, _, hw⟩ := DataW.trod_string hu h
  exact ⟨n, rfl, hw⟩
theorem opn_slice_row {α : Type} [Inhabited α] {P : Program} {w : World} {t e : TypeId} {d : Kd α} {ok : α → Prop} (hu : P.underlying t = some (.slice e)) (hs : P.cellsOf e = d.sz) (hO : Opn P w e d ok) {H : Type} {enc : TypeId × Value → H} {fuel : Nat} {cs : List Value} {x : DataW H × List MemPlace}
    (h : DataW.trod enc P w 0 (fun _ => true) true fuel t cs = some x) : ∃ (A : Option Addr) (c : Nat) (l : List α), cs = [.slice A l.length c] ∧ l.length ≤ c ∧ c ≤ 9223372036854775807 ∧ Kd.C d w A l.length l ∧ ∀ a ∈ l, ok a := by
  rcases Go.Deep.open_slice hu h with ⟨rfl, _⟩ | ⟨a, len, cap, m, n, D, Pl, rfl, _, hl, hm, hmm, _, hi⟩
  · exact ⟨none, 0, [], rfl, Nat.le_refl _, by omega, ⟨rfl, by simp, fun h => absurd h (by simp)⟩, by simp⟩
  · have hm' : cap ≤ 9223372036854775807 := hm
    obtain ⟨f, hf⟩ := Go.Deep.choose_lt (n := len) (p := fun i (y : α) => ok y ∧ ∃ c, c.length = d.sz ∧ d.K w y c ∧ ∀ j u, c[j]? = some u → w.cell? (a.add (i * d.sz + j)) = some u) (fun i him => by
      obtain ⟨cs', hc, ht⟩ := hi i (by rw [hmm]; simp only [if_true]; omega)
      obtain ⟨y, hK, hok⟩ := hO H enc n cs' _ ht
      rw [hs] at hc
      obtain ⟨_, hcl, hat⟩ := World.cells?_some hc
      refine ⟨y, hok, cs', hcl, hK, fun j u hj => ?_⟩
      have hjl : j < d.sz := by
        have := (List.getElem?_eq_some_iff.1 hj).1; omega
      rw [← Go.Deep.add_add, hat j hjl, hj])
    have hlen : ((List.range len).map f).length = len := by simp
    refine ⟨some a, cap, (List.range len).map f, by rw [hlen], by rw [hlen]; exact hl, hm', ⟨rfl, by rw [hlen]; omega, fun _ => ⟨a, rfl, ?_⟩⟩, ?_⟩
    · intro j p hj
      have hjl : j < len := by have := (List.getElem?_eq_some_iff.1 hj).1; rw [hlen] at this; exact this
      rw [List.getElem?_map, List.getElem?_range hjl] at hj
      obtain rfl : f j = p := by simpa using hj
      exact (hf j hjl).2
    · intro y hy
      obtain ⟨j, hj, rfl⟩ := List.mem_map.1 hy
      exact (hf j (List.mem_range.1 hj)).1
theorem opn_slice {α : Type} [Inhabited α] {P : Program} {w : World} {t e : TypeId} {d : Kd α} {ok : α → Prop} (hu : P.underlying t = some (.slice e)) (hs : P.cellsOf e = d.sz) (hO : Opn P w e d ok) : Opn P w t (Kd.slice e d) (fun l => ∀ a ∈ l, ok a) := by
  intro H enc fuel cs x h
  obtain ⟨A, c, l, rfl, hc, _, hC, hok⟩ := opn_slice_row hu hs hO h
  exact ⟨l, ⟨A, c, rfl, hc, hC⟩, hok⟩
/-- A field of a struct that reads as data. -/
theorem opn_field {α : Type} {P : Program} {w : World} {H : Type} {enc : TypeId × Value → H} {fs : Array Field} {cs : List Value} {xs : List (DataW H × List MemPlace)} {n : Nat} {d : Kd α} {ok : α → Prop}
    (hf : ∀ (i : Nat) (f : Field), fs[i]? = some f → DataW.trod enc P w 0 (fun _ => true) true n f.type ((cs.drop f.offset).take (P.cellsOf f.type)) = xs[i]?) (i : Nat) (t : TypeId) (o s : Nat) (f : Field) (hi : fs[i]? = some f) (ht : f.type = t) (ho : f.offset = o) (hs : P.cellsOf t = s) (hx : i < xs.length)
    (hO : Opn P w t d ok) : ∃ a, d.K w a ((cs.drop o).take s) ∧ ok a := by
  subst ht ho hs
  exact hO H enc n _ _ ((hf i f hi).trans (List.getElem?_eq_getElem hx))
theorem opn_step {α β : Type} {a : Kd α} {b : Kd β} {w : World} {x : α} {y : β} {cs : List Value} {o s p : Nat} (h : a.K w x ((cs.drop o).take s)) (g : b.K w y (cs.drop p)) (e : o + s = p) : (Kd.pair a b).K w (x, y) (cs.drop o) :=
  ⟨(cs.drop o).take s, cs.drop p, by rw [← e, ← List.drop_drop, List.take_append_drop], h, g⟩
theorem opn_last {α : Type} {a : Kd α} {w : World} {x : α} {cs : List Value} {o s : Nat} (h : a.K w x ((cs.drop o).take s)) (e : cs.length = o + s) : a.K w x (cs.drop o) := by
  rwa [List.take_of_length_le (by rw [List.length_drop]; omega)] at h

end Go.Proofs.YtbejjoogefleeaaGreatDoor.E
