/- Each Go function that the laws of this seat reach, as a plain Lean function, and its contract: the machine's call does what that function says. -/
import Derived.Test.YtcjilccldfkhmaaDoorBx0
import Derived.Test.YtcjilccldfkhmaaDoorBx2
import Derived.Test.YtcjilccldfkhmaaDoorBx10
namespace Go.Proofs.YtcjilccldfkhmaaDoor.B
open Go.RowKit Go.Proofs.YtcjilccldfkhmaaDoorW.PrintWords Go.Proofs.YtcjilccldfkhmaaDoorW.PrintLast Go.Proofs.YtcjilccldfkhmaaDoorW.PrintMore
attribute [local go_sem] max2_int min2_int max_two min_two max_three min_three max_four min_four   -- for this text's walks alone
set_option linter.unusedVariables false
set_option linter.unusedSimpArgs false

--PART
/-! ### phase_word: function 32 -/
--needs 38
/-- The kind whose letter a byte is, among the first letters. -/
def kindU (p : Nat) (b : UInt8) : Nat := if b.toNat = 99 ∧ 0 < p then 1 else if b.toNat = 111 ∧ 1 < p then 2 else if b.toNat = 116 ∧ 2 < p then 3 else if b.toNat = 101 ∧ 3 < p then 4 else 0
def wordP (l : List UInt8) : (Nat × Nat) × Bool := if l = [] then ((0, 0), false) else (((numP l.tail).1, kindU 4 (l.headD 0)), decide (0 < kindU 4 (l.headD 0)) && decide ((numP l.tail).2 = 0))
def letB : ByteArray := ⟨#[99, 111, 116, 101]⟩
def WordRes (r : (Nat × Nat) × Bool) (w : World) (e : Ending) (w' : World) : Prop := e = .returned (.tuple #[.agg #[.int .i64 (r.1.1 : Int), .int .i64 (r.1.2 : Int)], .bool r.2]) ∧ Below w.heap.size w w'
set_option maxRecDepth 100000 in
set_option maxHeartbeats 4000000 in
theorem phase_word_nil (s : ByteArray) (w : World) (hs : s.data.toList = []) : Calls Tryd.prog 32 #[.string s] w (WordRes (wordP s.data.toList) w) := by
  have HF : Aside0 (WordRes (wordP s.data.toList) w = WordRes ((0, 0), false) w) := ⟨by unfold wordP; rw [if_pos hs]⟩
  rw [HF.out]
  have e1 : (s.toList == ([] : List UInt8)) = true := by rw [ByteArray.toList_eq, hs]; rfl
  clear HF hs
  go_enter Tryd.func32, Tryd.ntmps32
  go_wp2
  refine bodyPost_ret (results_ct rfl _ _ w.heap.size 37 #[.int .i64 0, .int .i64 0] (0, 0) _ rfl (blk_new w _) Tryd.underlying37 rfl (by kernel_rfl)) rfl ?_
  exact ⟨rfl, (Below.refl _ _).alloc (Nat.le_refl _) _⟩
theorem kindU_le (p : Nat) (b : UInt8) : kindU p b ≤ 4 := by unfold kindU; split <;> (try split) <;> (try split) <;> (try split) <;> omega
theorem kindU_step (p : Nat) (b : UInt8) (hp : p < 4) : kindU (p + 1) b = if b.toNat = (letB[p]'(by show p < 4; exact hp)).toNat then p + 1 else kindU p b := by
  match p, hp with
  | 0, _ => show kindU 1 b = if b.toNat = 99 then 1 else kindU 0 b; unfold kindU; repeat' split
            all_goals omega
  | 1, _ => show kindU 2 b = if b.toNat = 111 then 2 else kindU 1 b; unfold kindU; repeat' split
            all_goals omega
  | 2, _ => show kindU 3 b = if b.toNat = 116 then 3 else kindU 2 b; unfold kindU; repeat' split
            all_goals omega
  | 3, _ => show kindU 4 b = if b.toNat = 101 then 4 else kindU 3 b; unfold kindU; repeat' split
            all_goals omega
theorem letB_lt (p : Nat) (hp : p < 4) : (letB[p]'(by show p < 4; exact hp)).toNat < 128 := by
  match p, hp with
  | 0, _ => show (99 : UInt8).toNat < 128; decide
  | 1, _ => show (111 : UInt8).toNat < 128; decide
  | 2, _ => show (116 : UInt8).toNat < 128; decide
  | 3, _ => show (101 : UInt8).toNat < 128; decide
theorem iterPos_w (w : World) (o : Obj) (s : ByteArray) (p : Nat) : ((w.alloc o).iter s p).iterPos (w.heap.size + 1) = p := by
  have h : ((w.alloc o).iter s p).iterPos (w.alloc o).heap.size = p := World.iterPos_iter (w.alloc o) s p
  rwa [World.size_alloc] at h
theorem w32b (b : UInt8) : wrap32 (b.toNat : Int) = (b.toNat : Int) := by have := u8_lt b; unfold wrap32; omega
theorem extract_one (s : ByteArray) (b : UInt8) (t : List UInt8) (h : s.data.toList = b :: t) : (s.extract 1 s.size).data.toList = t := by
  rw [ByteArray.data_extract, Array.toList_extract, List.extract_eq_take_drop, h]
  have : s.size = t.length + 1 := by rw [← size_list, h]; rfl
  rw [this]; simp
set_option maxRecDepth 100000 in
set_option maxHeartbeats 4000000 in
theorem phase_word_cons (s : ByteArray) (w : World) (b : UInt8) (t : List UInt8) (hs : s.data.toList = b :: t) (hz : s.size ≤ 140737488351232) : Calls Tryd.prog 32 #[.string s] w (WordRes (wordP s.data.toList) w) := by
  have HF : Aside0 (WordRes (wordP s.data.toList) w = WordRes (((numP t).1, kindU 4 b), decide (0 < kindU 4 b) && decide ((numP t).2 = 0)) w) := ⟨by unfold wordP; rw [if_neg (by rw [hs]; simp), hs]; rfl⟩
  rw [HF.out]
  have e1 : (s.toList == ([] : List UInt8)) = false := by rw [ByteArray.toList_eq, hs]; rfl
  have hsz : s.size = t.length + 1 := by rw [← size_list, hs]; rfl
  have hlt : 0 < s.size := by omega
  have hlt2 : (0 : Int) < (s.size : Int) := by omega
  have hle1 : (1 : Int) ≤ (s.size : Int) := by omega
  have hb0 : (s[0]'hlt) = b := by
    have h0 : s[0]'hlt = s.data.toList[0]'(by rw [size_list]; exact hlt) := rfl
    rw [h0]; simp [hs]
  have HNm : Aside0 (body_Number.f (s.extract 1 s.size) = some (((numP t).1 : Int), ((numP t).2 : Int))) := ⟨by unfold body_Number.f; rw [if_pos (by rw [ByteArray.size_extract]; omega), extract_one s b t hs]⟩
  clear HF hs hsz
  generalize (numP t).2 = er at HNm ⊢
  generalize (numP t).1 = vl at HNm ⊢
  generalize hkd4 : kindU 4 b = kd
  have HK := Aside0.mk hkd4
  clear hkd4
  go_enter Tryd.func32, Tryd.ntmps32
  go_wp2
  go_loopw [4] (fun v w' => ∃ pos : Nat, pos ≤ 4 ∧ v = .int .i64 ((kindU pos b : Nat) : Int) ∧ w' = (w.alloc (.cells #[.int .i64 0, .int .i64 0] 37)).iter letB pos) (fun _ w' => 4 - w'.iterPos (w.heap.size + 1))
  case atStart => exact ⟨0, Nat.zero_le _, by unfold kindU; simp, rfl⟩
  case round =>
    obtain ⟨pos, hpos, rfl, rfl⟩ := hrel
    by_cases hp : pos < 4
    · have hnx : ∀ ty, (Instr.next (.pointer (some ⟨(w.alloc (.cells #[.int .i64 0, .int .i64 0] 37)).heap.size, 0, none⟩)) true ty).run Tryd.prog ((w.alloc (.cells #[.int .i64 0, .int .i64 0] 37)).iter letB pos) = _ := fun ty => run_next_ascii _ letB pos ty hp (letB_lt pos hp)
      have hst := kindU_step pos b hp
      rw [World.size_alloc] at hnx
      generalize (letB[pos]'hp).toNat = c at hnx hst
      by_cases hc : b.toNat = c
      · rw [if_pos hc] at hst
        have t1 : ((b.toNat : Int) == (c : Int)) = true := by rw [beq_iff_eq, hc]
        have t2 : (wrap32 (b.toNat : Int) == (c : Int)) = true := by rw [w32b]; exact t1
        have HS := Aside0.mk hst
        clear hst hc
        go_wp2
        exact ⟨⟨pos + 1, by omega, by rw [HS.out]; simp, rfl⟩, by rw [iterPos_w, iterPos_w]; omega⟩
      · rw [if_neg hc] at hst
        have t1 : ((b.toNat : Int) == (c : Int)) = false := by rw [beq_eq_false_iff_ne]; omega
        have t2 : (wrap32 (b.toNat : Int) == (c : Int)) = false := by rw [w32b]; exact t1
        have HS := Aside0.mk hst
        clear hst hc
        go_wp2
        exact ⟨⟨pos + 1, by omega, by rw [HS.out], rfl⟩, by rw [iterPos_w, iterPos_w]; omega⟩
    · obtain rfl : pos = 4 := by omega
      have hnx : ∀ ty, (Instr.next (.pointer (some ⟨(w.alloc (.cells #[.int .i64 0, .int .i64 0] 37)).heap.size, 0, none⟩)) true ty).run Tryd.prog ((w.alloc (.cells #[.int .i64 0, .int .i64 0] 37)).iter letB 4) = _ := fun ty => run_next_end _ letB 4 ty (by decide)
      rw [World.size_alloc] at hnx
      have BK : Aside0 (((w.alloc (.cells #[.int .i64 0, .int .i64 0] 37)).iter letB 4).heap[w.heap.size]? = some (.cells #[.int .i64 0, .int .i64 0] 37 (0, 0))) := ⟨blk_alloc (blk_new w _) _⟩
      have HB : Aside0 (Below w.heap.size w ((w.alloc (.cells #[.int .i64 0, .int .i64 0] 37)).iter letB 4)) := ⟨((Below.refl _ _).alloc (Nat.le_refl _) _).alloc (by simp) _⟩
      rw [HK.out]
      have hkd : decide (0 < (kd : Int)) = decide (0 < kd) := by by_cases g : 0 < kd <;> simp [g]
      have her : ((er : Int) == 0) = decide (er = 0) := by by_cases g : er = 0 <;> simp [g]
      by_cases g1 : 0 < kd
      · have f1 : decide ((0 : Int) < (kd : Int)) = true := by rw [hkd]; exact decide_eq_true g1
        have f3 : decide (0 < kd) = true := decide_eq_true g1
        by_cases g2 : er = 0
        · have f2 : ((er : Int) == 0) = true := by rw [her]; exact decide_eq_true g2
          have f4 : decide (er = 0) = true := decide_eq_true g2
          clear hkd her g1
          go_wp2_with (go_at_call 38; refine (body_Number.calls _ _ _ _ HNm.out).mono ?_; rintro e w2 ⟨rfl, hb2⟩; have BK2 := Aside0.mk (blk_below BK.out hb2); have HB2 := Aside0.mk (HB.out.trans (hb2.mono HB.out.size)); have k0 := (blk_cell BK2.out 0); have k1 := (blk_cell BK2.out 1); have z0 := blk_frozen BK2.out 0; have z1 := blk_frozen BK2.out 1; clear hb2)
          refine bodyPost_ret (results_ct rfl _ _ w.heap.size 37 #[.int .i64 (vl : Int), .int .i64 (kd : Int)] (0, 0) _ rfl (blk_put (cs := #[.int .i64 (vl : Int), .int .i64 0]) (blk_put BK2.out 0 _ rfl) 1 _ rfl) Tryd.underlying37 rfl (by kernel_rfl)) rfl ?_
          refine ⟨?_, (HB2.out.setCell (p := ⟨w.heap.size, 0, none⟩) (Nat.le_refl _) _).setCell (p := ⟨w.heap.size, 1, none⟩) (Nat.le_refl _) _⟩
          rw [f3, f4]; rfl
        · have f2 : ((er : Int) == 0) = false := by rw [her]; exact decide_eq_false g2
          have f4 : decide (er = 0) = false := decide_eq_false g2
          clear hkd her g1
          go_wp2_with (go_at_call 38; refine (body_Number.calls _ _ _ _ HNm.out).mono ?_; rintro e w2 ⟨rfl, hb2⟩; have BK2 := Aside0.mk (blk_below BK.out hb2); have HB2 := Aside0.mk (HB.out.trans (hb2.mono HB.out.size)); have k0 := (blk_cell BK2.out 0); have k1 := (blk_cell BK2.out 1); have z0 := blk_frozen BK2.out 0; have z1 := blk_frozen BK2.out 1; clear hb2)
          refine bodyPost_ret (results_ct rfl _ _ w.heap.size 37 #[.int .i64 (vl : Int), .int .i64 (kd : Int)] (0, 0) _ rfl (blk_put (cs := #[.int .i64 (vl : Int), .int .i64 0]) (blk_put BK2.out 0 _ rfl) 1 _ rfl) Tryd.underlying37 rfl (by kernel_rfl)) rfl ?_
          refine ⟨?_, (HB2.out.setCell (p := ⟨w.heap.size, 0, none⟩) (Nat.le_refl _) _).setCell (p := ⟨w.heap.size, 1, none⟩) (Nat.le_refl _) _⟩
          rw [f3, f4]; rfl
      · have f1 : decide ((0 : Int) < (kd : Int)) = false := by rw [hkd]; exact decide_eq_false g1
        have f3 : decide (0 < kd) = false := decide_eq_false g1
        clear hkd her
        go_wp2_with (go_at_call 38; refine (body_Number.calls _ _ _ _ HNm.out).mono ?_; rintro e w2 ⟨rfl, hb2⟩; have BK2 := Aside0.mk (blk_below BK.out hb2); have HB2 := Aside0.mk (HB.out.trans (hb2.mono HB.out.size)); have k0 := (blk_cell BK2.out 0); have k1 := (blk_cell BK2.out 1); have z0 := blk_frozen BK2.out 0; have z1 := blk_frozen BK2.out 1; clear hb2)
        refine bodyPost_ret (results_ct rfl _ _ w.heap.size 37 #[.int .i64 (vl : Int), .int .i64 (kd : Int)] (0, 0) _ rfl (blk_put (cs := #[.int .i64 (vl : Int), .int .i64 0]) (blk_put BK2.out 0 _ rfl) 1 _ rfl) Tryd.underlying37 rfl (by kernel_rfl)) rfl ?_
        refine ⟨?_, (HB2.out.setCell (p := ⟨w.heap.size, 0, none⟩) (Nat.le_refl _) _).setCell (p := ⟨w.heap.size, 1, none⟩) (Nat.le_refl _) _⟩
        rw [f3]; rfl
def phase_word.f (a0 : ByteArray) : Option (Int × Int × Bool) := if a0.size ≤ 140737488351232 then some (((wordP a0.data.toList).1.1 : Int), ((wordP a0.data.toList).1.2 : Int), (wordP a0.data.toList).2) else none
theorem phase_word.calls (a0 : ByteArray) (r1 r2 : Int) (r3 : Bool) (w : World) (h : phase_word.f a0 = some (r1, r2, r3)) :
    Calls Tryd.prog 32 #[.string a0] w fun e w' => e = .returned (.tuple #[.agg #[.int .i64 r1, .int .i64 r2], .bool r3]) ∧ Below w.heap.size w w' := by
  unfold phase_word.f at h
  by_cases c : a0.size ≤ 140737488351232
  · rw [if_pos c] at h
    simp only [Option.some.injEq, Prod.mk.injEq] at h
    obtain ⟨rfl, rfl, rfl⟩ := h
    cases hl : a0.data.toList with
    | nil => have := phase_word_nil a0 w hl; rw [hl] at this; exact this
    | cons b t => have := phase_word_cons a0 w b t hl c; rw [hl] at this; exact this
  · rw [if_neg c] at h; cases h

end Go.Proofs.YtcjilccldfkhmaaDoor.B
