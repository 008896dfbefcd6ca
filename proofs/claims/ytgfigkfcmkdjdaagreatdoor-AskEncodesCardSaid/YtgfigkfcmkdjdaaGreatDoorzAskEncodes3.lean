/- The functions that the law reaches, as plain Lean functions, and their contracts: texts merged. -/
import Derived.Laws.StructEq
import Derived.Test.YtgfigkfcmkdjdaaGreatDoorzAskEncodes2
import Derived.Test.YtgfigkfcmkdjdaaGreatDoorzAskEncodes0
import Derived.Test.YtgfigkfcmkdjdaaGreatDoorzAskEncodes1
section
namespace Go.Proofs.YtgfigkfcmkdjdaaGreatDoor.B
open Go.RowKit Go.Proofs.YtgfigkfcmkdjdaaGreatDoorW.PrintWords Go.Proofs.YtgfigkfcmkdjdaaGreatDoorW.PrintLast Go.Proofs.YtgfigkfcmkdjdaaGreatDoorW.PrintMore
attribute [local go_sem] max2_int min2_int max_two min_two max_three min_three max_four min_four   -- for this text's walks alone
set_option linter.unusedVariables false
set_option linter.unusedSimpArgs false
def big : Nat := 4611686018427387904
theorem w64 {x : Int} (h0 : -9223372036854775808 ≤ x) (h1 : x ≤ 9223372036854775807) : wrap64 x = x := by
  unfold wrap64; omega
theorem bt_get (s : ByteArray) (i : Nat) (h : i < s.data.toList.length) : bt s (i : Int) = ((s.data.toList[i]).toNat : Int) := by
  have h2 : i < s.size := h
  unfold bt
  rw [dif_pos (by simpa using h2)]
  rfl
theorem size_list (s : ByteArray) : s.data.toList.length = s.size := rfl
theorem ba_ext {a b : ByteArray} (h : a.data.toList = b.data.toList) : a = b := by
  cases a; cases b; simpa using h
theorem u8_lt (b : UInt8) : b.toNat < 256 := b.toNat_lt
theorem w12 : wrap64 (1 + 1) = 2 := by rw [w64 (by omega) (by omega)]; rfl
theorem w23 : wrap64 (2 + 1) = 3 := by rw [w64 (by omega) (by omega)]; rfl
theorem sz_lit (l : List UInt8) : (⟨l.toArray⟩ : ByteArray).size = l.length := by simp [ByteArray.size]
theorem w64_sum1 (a b : Nat) (h : a + b ≤ 9223372036854775806) : wrap64 (wrap64 ((a : Int) + (b : Int)) + 1) = ((a + b + 1 : Nat) : Int) := by
  rw [w64 (x := (a : Int) + (b : Int)) (by omega) (by omega), w64 (by omega) (by omega)]; omega
def digitsN (n : Nat) : List UInt8 := if n < 10 then [UInt8.ofNat (48 + n)] else digitsN (n / 10) ++ [UInt8.ofNat (48 + n % 10)]
termination_by n
theorem digitsN_small {n : Nat} (h : n < 10) : digitsN n = [UInt8.ofNat (48 + n)] := by rw [digitsN, if_pos h]
theorem digitsN_step {n : Nat} (h : 10 ≤ n) : digitsN n = digitsN (n / 10) ++ [UInt8.ofNat (48 + n % 10)] := by rw [digitsN, if_neg (by omega)]
def digitsB (n : Int) : ByteArray := ⟨(digitsN n.toNat).toArray⟩
theorem digitsN_pos (n : Nat) : 1 ≤ (digitsN n).length := by
  by_cases h : n < 10
  · rw [digitsN_small h]; simp
  · rw [digitsN_step (by omega)]; simp
theorem digitsN_len (d : Nat) : ∀ n, n < 10 ^ (d + 1) → (digitsN n).length ≤ d + 1 := by
  induction d with
  | zero => intro n h; rw [digitsN_small (by simpa using h)]; simp
  | succ d ih =>
    intro n h
    by_cases hn : n < 10
    · rw [digitsN_small hn]; simp
    · rw [digitsN_step (by omega)]
      have := ih (n / 10) (by rw [Nat.div_lt_iff_lt_mul (by omega)]; rw [Nat.pow_succ] at h; omega)
      simp; omega
theorem digitsB_list (n : Int) : (digitsB n).data.toList = digitsN n.toNat := by simp [digitsB]
theorem digitsB_size (n : Int) : (digitsB n).size = (digitsN n.toNat).length := by rw [← size_list, digitsB_list]
theorem digitsB_20 (n : Int) (h1 : n ≤ 9223372036854775807) : (digitsB n).size ≤ 20 := by
  rw [digitsB_size]; exact digitsN_len 19 _ (by omega)
theorem strOfNums_list (l : List Int) : (strOfNums l).data.toList = l.map fun n => UInt8.ofNat n.toNat := rfl
def isDig (b : UInt8) : Prop := 48 ≤ b.toNat ∧ b.toNat ≤ 57
instance (b : UInt8) : Decidable (isDig b) := inferInstanceAs (Decidable (_ ∧ _))
def valOf (l : List UInt8) : Nat := l.foldl (fun n b => 10 * n + (b.toNat - 48)) 0
theorem valOf_snoc (l : List UInt8) (b : UInt8) : valOf (l ++ [b]) = 10 * valOf l + (b.toNat - 48) := by simp [valOf]
theorem ofNat_toNat_small {n : Nat} (h : n < 256) : (UInt8.ofNat n).toNat = n := by simp [UInt8.toNat_ofNat']; omega
theorem isDig_ofNat {n : Nat} (h : n < 10) : isDig (UInt8.ofNat (48 + n)) := by unfold isDig; rw [ofNat_toNat_small (by omega)]; omega
theorem digitsN_dig (n : Nat) : ∀ b ∈ digitsN n, isDig b := by
  induction n using Nat.strongRecOn with
  | _ n ih =>
    by_cases h : n < 10
    · rw [digitsN_small h]; intro b hb; simp only [List.mem_singleton] at hb; subst hb; exact isDig_ofNat h
    · rw [digitsN_step (by omega)]; intro b hb
      rcases List.mem_append.1 hb with hb | hb
      · exact ih (n / 10) (by omega) b hb
      · simp only [List.mem_singleton] at hb; subst hb; exact isDig_ofNat (by omega)
theorem valOf_digitsN (n : Nat) : valOf (digitsN n) = n := by
  induction n using Nat.strongRecOn with
  | _ n ih =>
    by_cases h : n < 10
    · rw [digitsN_small h]; show 10 * 0 + _ = n; rw [ofNat_toNat_small (by omega)]; omega
    · rw [digitsN_step (by omega), valOf_snoc, ih (n / 10) (by omega), ofNat_toNat_small (by omega)]; omega
theorem digitsN_ne (n : Nat) : digitsN n ≠ [] := by have := digitsN_pos n; intro h; rw [h] at this; simp at this
theorem digitsN_head (n : Nat) (hn : 1 ≤ n) : ∀ b t, digitsN n = b :: t → b.toNat ≠ 48 := by
  induction n using Nat.strongRecOn with
  | _ n ih =>
    intro b t e
    by_cases h : n < 10
    · rw [digitsN_small h] at e; injection e with e1 e2; rw [← e1, ofNat_toNat_small (by omega)]; omega
    · rw [digitsN_step (by omega)] at e
      rcases h2 : digitsN (n / 10) with _ | ⟨c, t2⟩
      · exact absurd h2 (digitsN_ne _)
      · rw [h2] at e; injection e with e1 e2; rw [← e1]; exact ih (n / 10) (by omega) (by omega) c t2 h2
theorem u8_ext {a b : UInt8} (h : a.toNat = b.toNat) : a = b := UInt8.toNat_inj.1 h
theorem valOf_pos : ∀ (r : List UInt8) (b : UInt8) (t : List UInt8), r.reverse = b :: t → (∀ x ∈ r, isDig x) → b.toNat ≠ 48 → 1 ≤ valOf r.reverse
  | [], b, t, e, _, _ => by simp at e
  | x :: r, b, t, e, hd, hb => by
    rw [List.reverse_cons] at e ⊢
    rw [valOf_snoc]
    have hx := hd x (by simp)
    rcases h2 : r.reverse with _ | ⟨c, t2⟩
    · rw [h2] at e; simp at e; obtain ⟨rfl, _⟩ := e; unfold isDig at hx; omega
    · rw [h2] at e; injection e with e1 e2
      have := valOf_pos r c t2 h2 (fun y hy => hd y (by simp [hy])) (by rw [e1]; exact hb)
      rw [h2] at this; omega
theorem digitsN_valOf_rev : ∀ (r : List UInt8), r ≠ [] → (∀ x ∈ r, isDig x) → (r.length = 1 ∨ ∀ b t, r.reverse = b :: t → b.toNat ≠ 48) → digitsN (valOf r.reverse) = r.reverse
  | [], h, _, _ => absurd rfl h
  | [x], _, hd, _ => by
    have hx := hd x (by simp)
    unfold isDig at hx
    show digitsN (10 * 0 + (x.toNat - 48)) = [x]
    rw [digitsN_small (by omega)]
    have : x = UInt8.ofNat (48 + (10 * 0 + (x.toNat - 48))) := u8_ext (by rw [ofNat_toNat_small (by omega)]; omega)
    rw [← this]
  | x :: y :: r, _, hd, hh => by
    have hh' : ∀ b t, (x :: y :: r).reverse = b :: t → b.toNat ≠ 48 := by
      rcases hh with hh | hh
      · simp at hh
      · exact hh
    have hx := hd x (by simp)
    unfold isDig at hx
    rw [List.reverse_cons, valOf_snoc]
    have hhead : ∀ b t, (y :: r).reverse = b :: t → b.toNat ≠ 48 := fun b t e => hh' b (t ++ [x]) (by rw [List.reverse_cons, e]; rfl)
    have hd' : ∀ z ∈ y :: r, isDig z := fun z hz => hd z (by simp only [List.mem_cons] at hz ⊢; exact .inr hz)
    have hp : 1 ≤ valOf (y :: r).reverse := by
      rcases h2 : (y :: r).reverse with _ | ⟨c, t2⟩
      · simp at h2
      · have := valOf_pos (y :: r) c t2 h2 hd' (hhead c t2 h2); rw [h2] at this; exact this
    rw [digitsN_step (by omega)]
    have e1 : (10 * valOf (y :: r).reverse + (x.toNat - 48)) / 10 = valOf (y :: r).reverse := by omega
    have e2 : UInt8.ofNat (48 + (10 * valOf (y :: r).reverse + (x.toNat - 48)) % 10) = x := u8_ext (by rw [ofNat_toNat_small (by omega)]; omega)
    rw [e1, e2, digitsN_valOf_rev (y :: r) (by simp) hd' (.inr hhead)]
theorem digitsN_valOf (l : List UInt8) (h0 : l ≠ []) (hd : ∀ x ∈ l, isDig x) (hh : l.length = 1 ∨ ∀ b t, l = b :: t → b.toNat ≠ 48) : digitsN (valOf l) = l := by
  have := digitsN_valOf_rev l.reverse (by simpa using h0) (by simpa using hd) (by simpa using hh)
  simpa using this
structure Tabs_ (w : World) : Prop where mk ::
  (tab : Lib.TabIs Tryz.prog w "internal/strconv.uint64pow10" .u64 Lib.pow10Tab)
  (max : ∃ m, w.cell? ⟨1, 0, none⟩ = some (.int .i64 m))
theorem Tabs_.below {w w' : World} (h : Tabs_ w) (hb : Below w.heap.size w w') : Tabs_ w' := by
  obtain ⟨m, hm⟩ := h.max
  exact ⟨(Lib.tabBelow_of_tabIs h.tab) w' hb, ⟨m, (hb.cell (p := ⟨1, 0, none⟩) (World.block_lt_of_cell? w _ hm)).trans hm⟩⟩
theorem decDigits_digitsN (n : Nat) : Lib.decDigits n = digitsN n := by
  induction n using Nat.strongRecOn with
  | _ n ih =>
    by_cases h : n < 10
    · rw [Lib.decDigits_one h, digitsN_small h]
    · rw [digitsN_step (by omega), ← ih (n / 10) (by omega), Lib.decDigits, dif_neg h]
theorem handed_shaped {H : Type} {enc : TypeId × Value → H} {a : Assume} {C : Checked} {os : Os} {f : FuncId} {fn : Func} {s : ChangeSpec} {conds : List PathCond} {apart fresh handsOn again : Bool} {X : World → Prop}
    (hX : ∀ w w' : World, w.heap = w'.heap → X w → X w') (own : ownKnob C.prog.godebug = none) (started : os.Started) (noInit : C.prog.inits.idxOf? f = none) (hfn : C.prog.funcs[f]? = some fn)
    (witness : ∃ (w : World) (tape : Tape) (i : Input), w.os = os ∧ (w.forCall tape i).Shaped C.prog ∧ i.vars = [] ∧ Input.okWide C.prog (w.forCall tape i) .any w.heap.size f i ∧
      ((s.pre enc C.prog fn conds apart (w.forCall tape i).memory i.args ∧ X (w.forCall tape i).memory) ∧ sizedMet enc C.prog fn (OpenSpec.ofChange s) apart (w.forCall tape i).memory i.args) ∧ a.holds C.prog (lone (Frame.enter C.prog f i.args .normal) [] (w.forCall tape i)))
    (told : ∀ (W : World) (base : Nat) (args : Array Value) (ds gs : List (DataW H)) (before : List MemPlace),
      (∀ (j : Nat) t v, fn.params[j]? = some t → args[j]? = some v → Value.okWide C.prog W .any base t v) → DataW.Whole enc C.prog fn.params.toList s.vars apart W args.toList ds gs before →
      conds.all (PathCond.test C.prog ⟨fn.params.toList, ds, s.plain.varTypes C.prog, gs⟩) = true → (DataW.weightsEach C.prog (fn.params.toList ++ s.plain.varTypes C.prog) (ds ++ gs)).all (· ≤ reachBytes) = true →
      X W → W.ShapedOpen C.prog → Calls C.prog f args W fun e W' => ∃ v, e = .returned v ∧ s.post enc C.prog fn apart fresh handsOn again W args v W') :
    ReturnsInHanded a C os f .any (fun w args => (s.pre enc C.prog fn conds apart w args ∧ X w) ∧ sizedMet enc C.prog fn (OpenSpec.ofChange s) apart w args) (s.post enc C.prog fn apart fresh handsOn again) := by
  refine returnsInHanded_of_calls own started noInit witness ?_
  intro w tape i _ shape _ right met _
  obtain ⟨_, _, _, g, hg, _, _, _, _, vals⟩ := right
  obtain rfl : g = fn := Option.some.inj (hg.symm.trans hfn)
  obtain ⟨⟨⟨ds, gs, before, whole, tests⟩, x⟩, small⟩ := met
  refine (told (w.forCall tape i) w.heap.size i.args ds gs before vals (DataW.Whole.of_heap (w' := w.forCall tape i) (by rfl) whole) tests (small.weights whole) (hX _ _ (by rfl) x) shape).mono fun e W' back => ?_
  obtain ⟨v, rfl, post⟩ := back
  exact ChangeSpec.post_blind post
theorem infoByte_ : (Tryz.prog.info? 5).map (fun i => (i.zero, i.size, i.bytes)) = some (some (.int .u8 0), 1, 1) := by kernel_rfl
theorem sizeBuilder_ : (Tryz.prog.info? 72).map (fun i => i.size) = some 2 := by kernel_rfl
theorem liesBuilder_ : liesAt Tryz.prog Tryz.prog.depth 72 (2 / Tryz.prog.cellsOf 72) 0 72 1 = true := by kernel_rfl
set_option maxHeartbeats 1000000 in
set_option maxRecDepth 100000 in
theorem Bld_copyCheck_used (b : Nat) (w : World) (h0 : w.cell? ⟨b, 0, none⟩ = some (.pointer (some ⟨b, 0, none⟩))) :
    Calls Tryz.prog 68 #[.pointer (some ⟨b, 0, none⟩)] w fun e w' => e = .returned (.tuple #[]) ∧ w' = w := by
  obtain ⟨j, hj, _⟩ := Option.map_eq_some_iff.1 sizeBuilder_
  go_enter Tryz.func68, Tryz.ntmps68
  go_wp2
  rw [Lib.run_neq_ptr_same w _ Tryz.underlying69 hj]
  go_wp2
  go_end0
  exact ⟨rfl, rfl⟩
set_option maxHeartbeats 1000000 in
set_option maxRecDepth 100000 in
theorem Bld_copyCheck_fresh (b : Nat) (w : World) (h0 : w.cell? ⟨b, 0, none⟩ = some (.pointer none)) (hsh : w.shape? b = some (72, 2)) (hfz : w.frozen? ⟨b, 0, none⟩ = false) :
    Calls Tryz.prog 68 #[.pointer (some ⟨b, 0, none⟩)] w fun e w' => e = .returned (.tuple #[]) ∧ w' = w.setCell ⟨b, 0, none⟩ (.pointer (some ⟨b, 0, none⟩)) := by
  obtain ⟨j, hj, hjs⟩ := Option.map_eq_some_iff.1 sizeBuilder_
  go_enter Tryz.func68, Tryz.ntmps68
  go_wp2
  rw [Lib.run_to_unsafe w ⟨b, 0, none⟩ Tryz.underlying69 Tryz.underlying127 hj (by rw [hjs]; decide) hsh (Nat.zero_lt_succ 1)]
  simp only [Result.andThen]
  rw [Oper.upon_value]
  go_wp2
  rw [run_callFunc_extern Tryz.func87 (by kernel_rfl) (by kernel_rfl) (by kernel_rfl) (e := Extern.AbiNoEscape.same) (by kernel_rfl)]
  rw [Lib.run_noEscape]
  simp only [Result.andThen]
  rw [Oper.upon_value]
  go_wp2
  rw [Lib.run_from_unsafe w ⟨b, 0, none⟩ Tryz.underlying127 Tryz.underlying69 hj hsh liesBuilder_]
  simp only [Result.andThen]
  rw [Oper.upon_value]
  go_wp2
  go_end0
  exact ⟨rfl, rfl⟩
theorem Bld_copyCheck (B b : Nat) (bs : List Value) (w : World) (h : Lib.IsBuilder 72 5 B b bs w) :
    Calls Tryz.prog 68 #[.pointer (some ⟨b, 0, none⟩)] w fun e w' => e = .returned (.tuple #[]) ∧ (Lib.BuilderAt 72 5 B b (.pointer (some ⟨b, 0, none⟩)) bs w' ∧ Below B w w') := by
  rcases h with h | h
  · refine (Bld_copyCheck_fresh b w h.cell0 h.shape h.frozen0).mono ?_
    rintro e w' ⟨rfl, rfl⟩
    exact ⟨rfl, h.used _, (Below.refl B w).setCell (p := ⟨b, 0, none⟩) h.1 _⟩
  · refine (Bld_copyCheck_used b w h.cell0).mono ?_
    rintro e w' ⟨rfl, rfl⟩
    exact ⟨rfl, h, Below.refl B _⟩
set_option maxHeartbeats 2000000 in
set_option maxRecDepth 100000 in
theorem Bld_WriteString (B b : Nat) (bs : List Value) (s : ByteArray) (w : World) (h : Lib.IsBuilder 72 5 B b bs w) (hlen : bs.length + s.size ≤ 140737488355328) (hBw : B ≤ w.heap.size) :
    Calls Tryz.prog 42 #[.pointer (some ⟨b, 0, none⟩), .string s] w fun e w' => e = .returned (.tuple #[.int .i64 s.size, .nilIface]) ∧ (Lib.BuilderAt 72 5 B b (.pointer (some ⟨b, 0, none⟩)) (bs ++ Lib.strCells s) w' ∧ Below B w w') := by
  obtain ⟨i0, hi, hz0, hz1, hz2⟩ := info_parts infoByte_
  go_enter Tryz.func42, Tryz.ntmps42
  go_wp2_with (go_at_call 68; refine (Bld_copyCheck B b bs _ h).mono ?_)
  rintro e w1 ⟨rfl, h1, hb1⟩
  obtain ⟨hB, v, hbk, hown, hne⟩ := h1
  have c0 : w1.cell? ⟨b, 0, none⟩ = some (.pointer (some ⟨b, 0, none⟩)) := by rw [Lib.cell_of_heap hbk]; rfl
  have c1 : w1.cell? ⟨b, 1, none⟩ = some v := by rw [Lib.cell_of_heap hbk]; rfl
  go_wp2_with (at_builtin; refine Lib.wpList_append_own_string _ rfl _ _ 70 9 rfl B 5 i0 Tryz.underlying70 Tryz.underlying9 hi hz0 hz1 hz2 _ _ _ rfl hown s rfl ?c3 ?c4 ?c5 ?_)
  case c3 => unfold maxLen; omega
  case c4 => omega
  case c5 => have := hb1.size; omega
  intro v' w2 hown' hgrow _
  have hlt : b < w1.heap.size := by
    rcases Nat.lt_or_ge b w1.heap.size with h' | h'
    · exact h'
    · simp [Array.getElem?_eq_none h'] at hbk
  have hb2 : w2.heap[b]? = some (.cells #[.pointer (some ⟨b, 0, none⟩), v] 72 (0, 0)) := by
    rw [hgrow.block b hlt (fun e => hne e.symm)]
    exact hbk
  have d0 : w2.cell? ⟨b, 0, none⟩ = some (.pointer (some ⟨b, 0, none⟩)) := by rw [Lib.cell_of_heap hb2]; rfl
  have d1 : w2.cell? ⟨b, 1, none⟩ = some v := by rw [Lib.cell_of_heap hb2]; rfl
  have f1 : w2.frozen? ⟨b, 1, none⟩ = false := Lib.frozen_of_heap hb2 1
  obtain ⟨ao, n', cap, rfl⟩ : ∃ ao n' cap, v' = .slice ao n' cap := by
    rcases hown'.2 with ⟨hv, _⟩ | ⟨g, cap, cur, hv, _⟩
    · exact ⟨_, _, _, hv⟩
    · exact ⟨_, _, _, hv⟩
  go_wp2
  go_ret2
  refine ⟨rfl, ?_, ?_⟩
  · exact Lib.BuilderAt.put (T := 72) (e := 5) hB hb2 (bs' := bs ++ Lib.strCells s) (by simpa [Lib.strCells_length] using hown') (by decide)
  · exact (hb1.grown hgrow (by have := hb1.size; omega) (fun k hk => (hown.lt k hk).1)).setCell (p := ⟨b, 1, none⟩) hB _
def dec (l : List UInt8) : Nat × Nat := Lib.decodeL l
theorem dec_N (l : List UInt8) : dec l = Lib.decodeN l.length (l.getD 0 0).toNat (l.getD 1 0).toNat (l.getD 2 0).toNat (l.getD 3 0).toNat := Lib.decodeL_N l
theorem dec_drop (s : ByteArray) (pos : Nat) : dec (s.data.toList.drop pos) = Utf8.decode s pos := Lib.decodeL_drop s pos
theorem dec_width (l : List UInt8) : 1 ≤ (dec l).2 := Lib.decodeL_width l
theorem dec_rune (l : List UInt8) : (dec l).1 ≤ 1114111 := Lib.decodeL_rune l
theorem dec_ascii (b : UInt8) (t : List UInt8) (h : b.toNat < 128) : dec (b :: t) = (b.toNat, 1) := by
  rw [dec_N]; unfold Lib.decodeN; simp [h]
theorem dec_high (b : UInt8) (t : List UInt8) (h : 128 ≤ b.toNat) : 128 ≤ (dec (b :: t)).1 := by
  rw [dec_N]; unfold Lib.decodeN
  simp only [List.getD_cons_zero]
  repeat' split
  all_goals first | omega | (simp; done) | (simp; omega)
theorem decodeN_width_le (n b0 b1 b2 b3 : Nat) (h : 1 ≤ n) : (Lib.decodeN n b0 b1 b2 b3).2 ≤ n := by
  unfold Lib.decodeN
  repeat' split
  all_goals first | omega | (simp; omega)
theorem dec_width_le (l : List UInt8) (h : l ≠ []) : (dec l).2 ≤ l.length := by
  rw [dec_N]; exact decodeN_width_le _ _ _ _ _ (by have := List.length_pos_iff.2 h; omega)
theorem decodeN_width4 (n b0 b1 b2 b3 : Nat) : (Lib.decodeN n b0 b1 b2 b3).2 ≤ 4 := by
  unfold Lib.decodeN
  repeat' split
  all_goals first | omega | (simp; done)
theorem dec_width4 (l : List UInt8) : (dec l).2 ≤ 4 := by rw [dec_N]; exact decodeN_width4 _ _ _ _ _
theorem decodeN_local (n m b0 b1 b2 b3 c1 c2 c3 : Nat) (hv : (Lib.decodeN n b0 b1 b2 b3).1 ≠ 65533) (hm : (Lib.decodeN n b0 b1 b2 b3).2 ≤ m)
    (h1 : 1 < (Lib.decodeN n b0 b1 b2 b3).2 → c1 = b1) (h2 : 2 < (Lib.decodeN n b0 b1 b2 b3).2 → c2 = b2) (h3 : 3 < (Lib.decodeN n b0 b1 b2 b3).2 → c3 = b3) :
    Lib.decodeN m b0 c1 c2 c3 = Lib.decodeN n b0 b1 b2 b3 := by
  unfold Lib.decodeN at hv hm h1 h2 h3 ⊢
  by_cases a0 : b0 < 128
  · simp [a0]
  simp only [a0, if_false] at hv hm h1 h2 h3 ⊢
  by_cases a1 : b0 / 32 = 6 ∧ (1 < n ∧ b1 / 64 = 2)
  · simp only [a1, and_self, if_true] at hv hm h1 h2 h3 ⊢
    by_cases g : b0 % 32 * 64 + b1 % 64 ≥ 128
    · simp only [g, if_true] at hv hm h1 h2 h3 ⊢
      have e1 := h1 (by omega)
      subst e1
      have : 1 < m := by omega
      simp [this, a1.2.2]
      exact g
    · simp only [g, if_false] at hv; exact absurd rfl hv
  simp only [a1, if_false] at hv hm h1 h2 h3 ⊢
  by_cases a2 : b0 / 16 = 14 ∧ (1 < n ∧ b1 / 64 = 2) ∧ (2 < n ∧ b2 / 64 = 2)
  · simp only [a2, and_self, if_true] at hv hm h1 h2 h3 ⊢
    split at hv
    · rename_i g
      rw [if_pos g] at hm h1 h2 h3 ⊢
      have e1 := h1 (by show 1 < 3; omega)
      have e2 := h2 (by show 2 < 3; omega)
      subst e1 e2
      have i1 : 1 < m := by have : 3 ≤ m := hm; omega
      have i2 : 2 < m := by have : 3 ≤ m := hm; omega
      rw [if_neg (by omega), if_pos ⟨trivial, ⟨i1, a2.2.1.2⟩, ⟨i2, a2.2.2.2⟩⟩, if_pos g]
    · exact absurd rfl hv
  simp only [a2, if_false] at hv hm h1 h2 h3 ⊢
  by_cases a3 : b0 / 8 = 30 ∧ (1 < n ∧ b1 / 64 = 2) ∧ (2 < n ∧ b2 / 64 = 2) ∧ (3 < n ∧ b3 / 64 = 2)
  · simp only [a3, and_self, if_true] at hv hm h1 h2 h3 ⊢
    split at hv
    · rename_i g
      rw [if_pos g] at hm h1 h2 h3 ⊢
      have e1 := h1 (by show 1 < 4; omega)
      have e2 := h2 (by show 2 < 4; omega)
      have e3 := h3 (by show 3 < 4; omega)
      subst e1 e2 e3
      have i1 : 1 < m := by have : 4 ≤ m := hm; omega
      have i2 : 2 < m := by have : 4 ≤ m := hm; omega
      have i3 : 3 < m := by have : 4 ≤ m := hm; omega
      rw [if_neg (by omega), if_neg (by omega), if_pos ⟨trivial, ⟨i1, a3.2.1.2⟩, ⟨i2, a3.2.2.1.2⟩, ⟨i3, a3.2.2.2.2⟩⟩, if_pos g]
    · exact absurd rfl hv
  · simp only [a3, if_false] at hv; exact absurd rfl hv
theorem getD_same {a b : List UInt8} {n k : Nat} (h : a.take n = b.take n) (hk : k < n) : a.getD k 0 = b.getD k 0 := by
  have e : ∀ l : List UInt8, (l.take n).getD k 0 = l.getD k 0 := fun l => by simp [List.getD, List.getElem?_take, hk]
  rw [← e a, ← e b, h]
theorem dec_local (a b : List UInt8) (hv : (dec a).1 ≠ 65533) (hl : (dec a).2 ≤ b.length) (h : a.take (dec a).2 = b.take (dec a).2) : dec b = dec a := by
  have hw := dec_width a
  have e0 : b.getD 0 0 = a.getD 0 0 := (getD_same h (by omega)).symm
  have q := dec_N a
  rw [dec_N b, e0]
  rw [q] at hv hl h ⊢
  exact decodeN_local _ _ _ _ _ _ _ _ _ hv hl (fun g => by rw [getD_same h g]) (fun g => by rw [getD_same h g]) (fun g => by rw [getD_same h g])
theorem dec_append (a r : List UInt8) (ha : a ≠ []) (hv : (dec a).1 ≠ 65533) : dec (a ++ r) = dec a := by
  have := dec_width_le a ha
  exact dec_local a (a ++ r) hv (by simp; omega) (by rw [List.take_append_of_le_length this])
theorem dec_take (a : List UInt8) (n : Nat) (ha : a ≠ []) (hv : (dec a).1 ≠ 65533) (hn : (dec a).2 ≤ n) : dec (a.take n) = dec a := by
  have := dec_width_le a ha
  exact dec_local a (a.take n) hv (by rw [List.length_take]; omega) (by rw [List.take_take]; congr 1; omega)
theorem decodeN_encode (n b0 b1 b2 b3 : Nat) (h0 : b0 < 256) (h1 : b1 < 256) (h2 : b2 < 256) (h3 : b3 < 256) (hv : (Lib.decodeN n b0 b1 b2 b3).1 ≠ 65533) :
    (Utf8.encode ((Lib.decodeN n b0 b1 b2 b3).1 : Int)).data.toList = ([UInt8.ofNat b0, UInt8.ofNat b1, UInt8.ofNat b2, UInt8.ofNat b3]).take (Lib.decodeN n b0 b1 b2 b3).2 := by
  unfold Lib.decodeN at hv ⊢
  by_cases a0 : b0 < 128
  · simp only [a0, if_true]
    unfold Utf8.encode
    have v : Utf8.valid (b0 : Int) = true := by unfold Utf8.valid; simp; omega
    simp [v, a0]
  simp only [a0, if_false] at hv ⊢
  by_cases a1 : b0 / 32 = 6 ∧ (1 < n ∧ b1 / 64 = 2)
  · rw [if_pos a1] at hv ⊢
    split at hv
    · rename_i g
      rw [if_pos g]
      unfold Utf8.encode
      have v : Utf8.valid ((b0 % 32 * 64 + b1 % 64 : Nat) : Int) = true := by unfold Utf8.valid; simp; omega
      simp only [v, if_true, Int.toNat_natCast]
      rw [if_neg (by omega), if_pos (by omega)]
      have i0 : 192 + (b0 % 32 * 64 + b1 % 64) / 64 = b0 := by omega
      have i1 : 128 + (b0 % 32 * 64 + b1 % 64) % 64 = b1 := by omega
      rw [i0, i1]; rfl
    · exact absurd rfl hv
  rw [if_neg a1] at hv ⊢
  by_cases a2 : b0 / 16 = 14 ∧ (1 < n ∧ b1 / 64 = 2) ∧ (2 < n ∧ b2 / 64 = 2)
  · rw [if_pos a2] at hv ⊢
    split at hv
    · rename_i g
      rw [if_pos g]
      unfold Utf8.encode
      have v : Utf8.valid ((b0 % 16 * 4096 + b1 % 64 * 64 + b2 % 64 : Nat) : Int) = true := by unfold Utf8.valid; simp; omega
      simp only [v, if_true, Int.toNat_natCast]
      rw [if_neg (by omega), if_neg (by omega), if_pos (by omega)]
      have i0 : 224 + (b0 % 16 * 4096 + b1 % 64 * 64 + b2 % 64) / 4096 = b0 := by omega
      have i1 : 128 + (b0 % 16 * 4096 + b1 % 64 * 64 + b2 % 64) / 64 % 64 = b1 := by omega
      have i2 : 128 + (b0 % 16 * 4096 + b1 % 64 * 64 + b2 % 64) % 64 = b2 := by omega
      rw [i0, i1, i2]; rfl
    · exact absurd rfl hv
  rw [if_neg a2] at hv ⊢
  by_cases a3 : b0 / 8 = 30 ∧ (1 < n ∧ b1 / 64 = 2) ∧ (2 < n ∧ b2 / 64 = 2) ∧ (3 < n ∧ b3 / 64 = 2)
  · rw [if_pos a3] at hv ⊢
    split at hv
    · rename_i g
      rw [if_pos g]
      unfold Utf8.encode
      have v : Utf8.valid ((b0 % 8 * 262144 + b1 % 64 * 4096 + b2 % 64 * 64 + b3 % 64 : Nat) : Int) = true := by unfold Utf8.valid; simp; omega
      simp only [v, if_true, Int.toNat_natCast]
      rw [if_neg (by omega), if_neg (by omega), if_neg (by omega)]
      have i0 : 240 + (b0 % 8 * 262144 + b1 % 64 * 4096 + b2 % 64 * 64 + b3 % 64) / 262144 = b0 := by omega
      have i1 : 128 + (b0 % 8 * 262144 + b1 % 64 * 4096 + b2 % 64 * 64 + b3 % 64) / 4096 % 64 = b1 := by omega
      have i2 : 128 + (b0 % 8 * 262144 + b1 % 64 * 4096 + b2 % 64 * 64 + b3 % 64) / 64 % 64 = b2 := by omega
      have i3 : 128 + (b0 % 8 * 262144 + b1 % 64 * 4096 + b2 % 64 * 64 + b3 % 64) % 64 = b3 := by omega
      rw [i0, i1, i2, i3]; rfl
    · exact absurd rfl hv
  · rw [if_neg a3] at hv; exact absurd rfl hv
theorem u8_ofNat_toNat (b : UInt8) : UInt8.ofNat b.toNat = b := u8_ext (ofNat_toNat_small (u8_lt b))
theorem dec_encode (l : List UInt8) (hl : l ≠ []) (hv : (dec l).1 ≠ 65533) : (Utf8.encode ((dec l).1 : Int)).data.toList = l.take (dec l).2 := by
  have hw := dec_width_le l hl
  have h4 := dec_width4 l
  have q := dec_N l
  rw [q] at hv hw h4 ⊢
  rw [decodeN_encode _ _ _ _ _ (u8_lt _) (u8_lt _) (u8_lt _) (u8_lt _) hv, u8_ofNat_toNat, u8_ofNat_toNat, u8_ofNat_toNat, u8_ofNat_toNat]
  apply List.ext_getElem?
  intro i
  rw [List.getElem?_take, List.getElem?_take]
  split
  · rename_i hi
    have hil : i < l.length := by omega
    match i, hi, hil with
    | 0, _, h => simp [List.getD, List.getElem?_eq_getElem h]
    | 1, _, h => simp [List.getD, List.getElem?_eq_getElem h]
    | 2, _, h => simp [List.getD, List.getElem?_eq_getElem h]
    | 3, _, h => simp [List.getD, List.getElem?_eq_getElem h]
    | n + 4, hi, _ => omega
  · rfl
theorem dec_encode_size (l : List UInt8) (hl : l ≠ []) (hv : (dec l).1 ≠ 65533) : (Utf8.encode ((dec l).1 : Int)).size = (dec l).2 := by
  have := congrArg List.length (dec_encode l hl hv)
  rw [size_list, List.length_take] at this
  have := dec_width_le l hl
  omega
def mayB (r : Nat) : Bool := decide (32 ≤ r) && (r != 127 && r != 65533)
theorem mayB_eq (r : Nat) : mayB r = true ↔ 32 ≤ r ∧ r ≠ 127 ∧ r ≠ 65533 := by simp [mayB]
def numL : List UInt8 → Nat → Nat → Nat × Nat × Nat
  | [], _, _ => (0, 0, 82)
  | b :: t, i, tg => if b.toNat = 61 ∧ 0 < i then (tg, i + 1, 0) else if ¬ isDig b ∨ (b.toNat = 48 ∧ i = 0) then (0, 0, 80) else if 99999 < 10 * tg + (b.toNat - 48) then (0, 0, 80) else numL t (i + 1) (10 * tg + (b.toNat - 48))
def textL (l : List UInt8) (i : Nat) : Nat × Nat :=
  if _h : l = [] then (0, 82) else if (dec l).1 = 1 ∧ 0 < i then (i, 0) else if mayB (dec l).1 = true ∧ i + (dec l).2 ≤ 512 then textL (l.drop (dec l).2) (i + (dec l).2) else (0, 81)
termination_by l.length
decreasing_by have := dec_width l; have := List.length_pos_iff.2 _h; simp only [List.length_drop]; omega
def allMay (l : List UInt8) : Bool := if _h : l = [] then true else mayB (dec l).1 && allMay (l.drop (dec l).2)
termination_by l.length
decreasing_by have := dec_width l; have := List.length_pos_iff.2 _h; simp only [List.length_drop]; omega
def valueL (l : List UInt8) : Bool := decide (1 ≤ l.length) && (decide (l.length ≤ 512) && allMay l)
theorem textL_nil (i : Nat) : textL [] i = (0, 82) := by rw [textL]; rfl
theorem textL_cons (l : List UInt8) (h : l ≠ []) (i : Nat) : textL l i = if (dec l).1 = 1 ∧ 0 < i then (i, 0) else if mayB (dec l).1 = true ∧ i + (dec l).2 ≤ 512 then textL (l.drop (dec l).2) (i + (dec l).2) else (0, 81) := by
  conv => lhs; rw [textL]
  rw [dif_neg h]
theorem allMay_nil : allMay [] = true := by rw [allMay]; rfl
theorem allMay_cons (l : List UInt8) (h : l ≠ []) : allMay l = (mayB (dec l).1 && allMay (l.drop (dec l).2)) := by
  conv => lhs; rw [allMay]
  rw [dif_neg h]
def nextL (l : List UInt8) : (Nat × List UInt8) × Nat × Nat :=
  let p := numL l 0 0
  if p.2.2 ≠ 0 then ((0, []), 0, p.2.2) else
  let q := textL (l.drop p.2.1) 0
  if q.2 ≠ 0 then ((0, []), 0, q.2) else ((p.1, (l.drop p.2.1).take q.1), p.2.1 + q.1 + 1, 0)
theorem nextL_pos (l : List UInt8) (h : (nextL l).2.2 = 0) : 1 ≤ (nextL l).2.1 := by
  unfold nextL at h ⊢
  simp only at h ⊢
  split at h
  · rename_i g; exact absurd h g
  · rename_i g
    rw [if_neg g]
    split at h
    · rename_i g2; exact absurd h g2
    · rename_i g2; rw [if_neg g2]; simp only; omega
def fieldsL (l : List UInt8) (c p : Nat) : List (Nat × List UInt8) × Nat × Nat :=
  if _h : l = [] then ([], p, 0) else if 64 ≤ c then ([], p, 3) else
  if _g : (nextL l).2.2 = 0 then ((nextL l).1 :: (fieldsL (l.drop (nextL l).2.1) (c + 1) (p + (nextL l).2.1)).1, (fieldsL (l.drop (nextL l).2.1) (c + 1) (p + (nextL l).2.1)).2) else ([], p, (nextL l).2.2)
termination_by l.length
decreasing_by all_goals (have := nextL_pos l _g; have := List.length_pos_iff.2 _h; simp only [List.length_drop]; omega)
theorem fieldsL_nil (c p : Nat) : fieldsL [] c p = ([], p, 0) := by rw [fieldsL]; rfl
theorem fieldsL_full (l : List UInt8) (h : l ≠ []) (c p : Nat) (hc : 64 ≤ c) : fieldsL l c p = ([], p, 3) := by rw [fieldsL, dif_neg h, if_pos hc]
theorem fieldsL_err (l : List UInt8) (h : l ≠ []) (c p : Nat) (hc : c < 64) (he : (nextL l).2.2 ≠ 0) : fieldsL l c p = ([], p, (nextL l).2.2) := by rw [fieldsL, dif_neg h, if_neg (by omega), dif_neg he]
theorem fieldsL_next (l : List UInt8) (h : l ≠ []) (c p : Nat) (hc : c < 64) (he : (nextL l).2.2 = 0) :
    fieldsL l c p = ((nextL l).1 :: (fieldsL (l.drop (nextL l).2.1) (c + 1) (p + (nextL l).2.1)).1, (fieldsL (l.drop (nextL l).2.1) (c + 1) (p + (nextL l).2.1)).2) := by
  conv => lhs; rw [fieldsL]
  rw [dif_neg h, if_neg (by omega), dif_pos he]
def formL (tag : Int) (v : List UInt8) : List UInt8 × Nat := if tag < 1 ∨ 99999 < tag then ([], 80) else if valueL v = true then (digitsN tag.toNat ++ 61 :: (v ++ [1]), 0) else ([], 81)
theorem numL_le : ∀ (l : List UInt8) (i tg : Nat), (numL l i tg).2.2 = 0 → (numL l i tg).2.1 ≤ i + l.length ∧ i < (numL l i tg).2.1
  | [], i, tg, h => by simp [numL] at h
  | b :: t, i, tg, h => by
    unfold numL at h ⊢
    split at h
    · rename_i g; rw [if_pos g]; simp <;> omega
    · rename_i g; rw [if_neg g]
      split at h
      · simp at h
      · rename_i g2; rw [if_neg g2]
        split at h
        · simp at h
        · rename_i g3; rw [if_neg g3]
          have := numL_le t (i + 1) _ h
          simp only [List.length_cons]; omega
theorem textL_le (n : Nat) : ∀ (l : List UInt8) (i : Nat), l.length ≤ n → (textL l i).2 = 0 → (textL l i).1 < i + l.length ∧ i ≤ (textL l i).1 := by
  induction n with
  | zero => intro l i hn h; rw [List.eq_nil_of_length_eq_zero (show l.length = 0 by omega), textL_nil] at h; simp at h
  | succ n ih =>
    intro l i hn h
    by_cases hl : l = []
    · rw [hl, textL_nil] at h; simp at h
    · have hp := List.length_pos_iff.2 hl
      rw [textL_cons l hl] at h ⊢
      split at h
      · rename_i g; rw [if_pos g]; simp <;> omega
      · rename_i g; rw [if_neg g]
        split at h
        · rename_i g2; rw [if_pos g2]
          have hw := dec_width l
          have hw2 := dec_width_le l hl
          have := ih (l.drop (dec l).2) (i + (dec l).2) (by rw [List.length_drop]; omega) h
          rw [List.length_drop] at this
          omega
        · simp at h
theorem nextL_le (l : List UInt8) (h : (nextL l).2.2 = 0) : (nextL l).2.1 ≤ l.length := by
  unfold nextL at h ⊢
  simp only at h ⊢
  split at h
  · rename_i g; exact absurd h g
  · rename_i g
    rw [if_neg g]
    split at h
    · rename_i g2; exact absurd h g2
    · rename_i g2; rw [if_neg g2]
      have a := numL_le l 0 0 (by simpa using g)
      have b := textL_le _ (l.drop (numL l 0 0).2.1) 0 (Nat.le_refl _) (by simpa using g2)
      rw [List.length_drop] at b
      simp only; omega
theorem fieldsL_count (n : Nat) : ∀ (l : List UInt8) (c p : Nat), l.length ≤ n → c ≤ 64 → c + (fieldsL l c p).1.length ≤ 64 := by
  induction n with
  | zero => intro l c p hn hc; rw [List.eq_nil_of_length_eq_zero (show l.length = 0 by omega), fieldsL_nil]; simp <;> omega
  | succ n ih =>
    intro l c p hn hc
    by_cases hl : l = []
    · rw [hl, fieldsL_nil]; simp <;> omega
    by_cases hc2 : 64 ≤ c
    · rw [fieldsL_full l hl c p hc2]; simp <;> omega
    by_cases he : (nextL l).2.2 = 0
    · rw [fieldsL_next l hl c p (by omega) he]
      have h1 := nextL_pos l he
      have h2 := nextL_le l he
      have := ih (l.drop (nextL l).2.1) (c + 1) (p + (nextL l).2.1) (by rw [List.length_drop]; omega) (by omega)
      simp only [List.length_cons]; omega
    · rw [fieldsL_err l hl c p (by omega) he]; simp <;> omega
def runesL (l : List UInt8) : List Nat := if _h : l = [] then [] else (dec l).1 :: runesL (l.drop (dec l).2)
termination_by l.length
decreasing_by have := dec_width l; have := List.length_pos_iff.2 _h; simp only [List.length_drop]; omega
theorem runesL_nil : runesL [] = [] := by rw [runesL]; rfl
theorem runesL_cons (l : List UInt8) (h : l ≠ []) : runesL l = (dec l).1 :: runesL (l.drop (dec l).2) := by
  conv => lhs; rw [runesL]
  rw [dif_neg h]
theorem runesFrom_eq (s : ByteArray) : ∀ (bound i : Nat) (acc : Array Value), s.size ≤ i + bound →
    Conv.runesFrom s bound i acc = acc ++ ((runesL (s.data.toList.drop i)).map fun (r : Nat) => Value.int .i32 (r : Int)).toArray
  | 0, i, acc, h => by rw [List.drop_eq_nil_of_le (by rw [size_list]; omega), runesL_nil]; simp [Conv.runesFrom]
  | bound + 1, i, acc, h => by
    unfold Conv.runesFrom
    by_cases hi : i < s.size
    · rw [if_pos hi]
      have hne : s.data.toList.drop i ≠ [] := by
        intro e; have := congrArg List.length e; rw [List.length_drop, size_list, List.length_nil] at this; omega
      have hw := dec_width (s.data.toList.drop i)
      rw [dec_drop] at hw
      simp only
      rw [runesFrom_eq s bound (i + (Utf8.decode s i).2) _ (by omega), runesL_cons _ hne, dec_drop, List.drop_drop]
      simp
    · rw [if_neg hi, List.drop_eq_nil_of_le (by rw [size_list]; omega), runesL_nil]; simp
theorem runesL_len (n : Nat) : ∀ l : List UInt8, l.length ≤ n → (runesL l).length ≤ l.length := by
  induction n with
  | zero => intro l h; rw [List.eq_nil_of_length_eq_zero (show l.length = 0 by omega), runesL_nil]; simp
  | succ n ih =>
    intro l h
    by_cases hl : l = []
    · rw [hl, runesL_nil]; simp
    · have hp := List.length_pos_iff.2 hl
      have hw := dec_width l
      rw [runesL_cons l hl]
      have := ih (l.drop (dec l).2) (by rw [List.length_drop]; omega)
      rw [List.length_drop] at this
      simp only [List.length_cons]; omega
theorem runes_conv {P : Program} (W : World) (src dst e : TypeId) (s : ByteArray) (hs : P.underlying src = some .string) (hd : P.underlying dst = some (.slice e)) (he : P.underlying e = some (.int .i32)) (hz : s.size ≤ 70368744177664) :
    ∃ (cap : Nat) (C : Array Value), (convert src dst (.string s)).run P W = .ok (.slice (some ⟨W.heap.size, 0, none⟩) (runesL s.data.toList).length cap) (W.drew.alloc (.cells C e)) ∧ (runesL s.data.toList).length ≤ cap ∧ C.size = cap ∧
      ∀ j, j < (runesL s.data.toList).length → C[j]? = some (.int .i32 (((runesL s.data.toList).getD j 0 : Nat) : Int)) := by
  have hr := runesFrom_eq s s.size 0 #[] (by omega)
  rw [List.drop_zero, Array.empty_append] at hr
  have hn : (Conv.runesFrom s s.size 0 #[]).size = (runesL s.data.toList).length := by rw [hr]; simp
  have hl := runesL_len _ s.data.toList (Nat.le_refl _)
  rw [size_list] at hl
  have hcap := grownCap_ge W (Conv.runesFrom s s.size 0 #[]).size 0 e
  refine ⟨grownCap W (Conv.runesFrom s s.size 0 #[]).size 0 e, Conv.runesFrom s s.size 0 #[] ++ Array.replicate (grownCap W (Conv.runesFrom s s.size 0 #[]).size 0 e - (Conv.runesFrom s s.size 0 #[]).size) (.int .i32 0), ?_, ?_, ?_, ?_⟩
  · rw [run_runes_of_string W src dst e s hs hd he (by rw [hn]; omega), hn]
  · omega
  · simp only [Array.size_append, Array.size_replicate]
    omega
  · intro j hj
    rw [hr, Array.getElem?_append_left (by simpa using hj)]
    simp [List.getD, List.getElem?_eq_getElem hj]
def widthL (l : List UInt8) : Nat := if l ≠ [] ∧ mayB (dec l).1 = true then (dec l).2 else 0
theorem runes_one (l : List UInt8) (n r : Nat) (h1 : 1 ≤ n) (h2 : n ≤ l.length) (hr : r ≠ 65533) (h : runesL (l.take n) = [r]) : dec l = (r, n) := by
  have hne : l.take n ≠ [] := by intro e; have := congrArg List.length e; rw [List.length_take, List.length_nil] at this; omega
  rw [runesL_cons _ hne] at h
  injection h with e1 e2
  have hw := dec_width_le _ hne
  rw [List.length_take] at hw
  have hd : (dec (l.take n)).2 = n := by
    rcases Nat.lt_or_ge (dec (l.take n)).2 n with g | g
    · have hx : (l.take n).drop (dec (l.take n)).2 ≠ [] := by intro e; have := congrArg List.length e; rw [List.length_drop, List.length_take, List.length_nil] at this; omega
      rw [runesL_cons _ hx] at e2; cases e2
    · omega
  rw [dec_local (l.take n) l (by rw [e1]; exact hr) (by omega) (by rw [hd, List.take_take, Nat.min_self]), ← e1]
  exact Prod.ext rfl hd
theorem one_runes (l : List UInt8) (hl : l ≠ []) (hr : (dec l).1 ≠ 65533) : runesL (l.take (dec l).2) = [(dec l).1] := by
  have hw := dec_width l
  have hw2 := dec_width_le l hl
  have hne : l.take (dec l).2 ≠ [] := by intro e; have := congrArg List.length e; rw [List.length_take, List.length_nil] at this; omega
  have e := dec_take l (dec l).2 hl hr (Nat.le_refl _)
  rw [runesL_cons _ hne, e, List.drop_take, Nat.sub_self, List.take_zero, runesL_nil]
theorem drop_nil_of (s : ByteArray) (pos : Nat) (h : ¬ pos < s.size) : s.data.toList.drop pos = [] := List.drop_eq_nil_of_le (by rw [size_list]; omega)
theorem drop_ne_nil (s : ByteArray) (pos : Nat) (h : pos < s.size) : s.data.toList.drop pos ≠ [] := by
  intro e; have := congrArg List.length e; rw [List.length_drop, size_list] at this; simp at this; omega
def formsL : List (Int × List UInt8) → List UInt8 × Nat
  | [] => ([], 0)
  | f :: r => if (formL f.1 f.2).2 ≠ 0 then ([], (formL f.1 f.2).2) else if (formsL r).2 ≠ 0 then ([], (formsL r).2) else ((formL f.1 f.2).1 ++ (formsL r).1, 0)
def allFormsL (l : List (Int × List UInt8)) : List UInt8 × Nat := if 64 < l.length then ([], 3) else formsL l
theorem formsL_err : ∀ l : List (Int × List UInt8), (formsL l).2 ≠ 0 → (formsL l).1 = []
  | [], h => absurd rfl h
  | f :: r, h => by
    unfold formsL at h ⊢
    split at h
    · rename_i g; rw [if_pos g]
    · rename_i g; rw [if_neg g]
      split at h
      · rename_i g2; rw [if_pos g2]
      · exact absurd rfl h
theorem formL_len (tag : Int) (v : List UInt8) : (formL tag v).1.length ≤ 519 := by
  unfold formL
  split
  · simp
  · rename_i g
    split
    · rename_i g2
      have := digitsN_len 4 tag.toNat (by omega)
      unfold valueL at g2
      simp only [Bool.and_eq_true, decide_eq_true_eq] at g2
      simp only [List.length_append, List.length_cons, List.length_nil]; omega
    · simp
theorem formsL_len : ∀ l : List (Int × List UInt8), (formsL l).1.length ≤ 519 * l.length
  | [] => by simp [formsL]
  | f :: r => by
    have := formsL_len r
    have := formL_len f.1 f.2
    unfold formsL
    split
    · simp
    · split
      · simp
      · simp only [List.length_append, List.length_cons]; omega
def formsAcc (acc : List UInt8) (l : List (Int × List UInt8)) : List UInt8 × Nat := if (formsL l).2 ≠ 0 then ([], (formsL l).2) else (acc ++ (formsL l).1, 0)
theorem formsAcc_nil (l : List (Int × List UInt8)) : formsAcc [] l = formsL l := by
  unfold formsAcc
  by_cases h : (formsL l).2 = 0
  · rw [if_neg (by simpa using h), List.nil_append, ← h]
  · rw [if_pos h, ← formsL_err l h]
theorem formsAcc_end (acc : List UInt8) : formsAcc acc [] = (acc, 0) := by simp [formsAcc, formsL]
theorem formsAcc_bad (acc : List UInt8) (f : Int × List UInt8) (r : List (Int × List UInt8)) (h : (formL f.1 f.2).2 ≠ 0) : formsAcc acc (f :: r) = ([], (formL f.1 f.2).2) := by
  have e : formsL (f :: r) = ([], (formL f.1 f.2).2) := by conv => lhs; unfold formsL; rw [if_pos h]
  unfold formsAcc; rw [e, if_pos h]
theorem formsAcc_step (acc : List UInt8) (f : Int × List UInt8) (r : List (Int × List UInt8)) (h : (formL f.1 f.2).2 = 0) : formsAcc acc (f :: r) = formsAcc (acc ++ (formL f.1 f.2).1) r := by
  have e : formsL (f :: r) = if (formsL r).2 ≠ 0 then ([], (formsL r).2) else ((formL f.1 f.2).1 ++ (formsL r).1, 0) := by conv => lhs; unfold formsL; rw [if_neg (by simpa using h)]
  unfold formsAcc
  rw [e]
  by_cases g : (formsL r).2 ≠ 0
  · rw [if_pos g, if_pos g]; simp only; rw [if_pos g]
  · rw [if_neg g, if_neg g]; simp
def valFrom (tg : Nat) (ds : List UInt8) : Nat := ds.foldl (fun n b => 10 * n + (b.toNat - 48)) tg
theorem valFrom_zero (ds : List UInt8) : valFrom 0 ds = valOf ds := rfl
theorem valFrom_cons (tg : Nat) (b : UInt8) (ds : List UInt8) : valFrom tg (b :: ds) = valFrom (10 * tg + (b.toNat - 48)) ds := by unfold valFrom; rw [List.foldl_cons]
def NumSpec (l : List UInt8) (i tg : Nat) : Prop :=
    ∃ ds rest, l = ds ++ 61 :: rest ∧ (∀ x ∈ ds, isDig x) ∧ (numL l i tg).2.1 = i + ds.length + 1 ∧ (numL l i tg).1 = valFrom tg ds ∧ valFrom tg ds ≤ 99999 ∧ (i = 0 → ds ≠ []) ∧ (i = 0 → ∀ b t, ds = b :: t → b.toNat ≠ 48)
theorem numL_spec (l : List UInt8) : ∀ (i tg : Nat), tg ≤ 99999 → (numL l i tg).2.2 = 0 → NumSpec l i tg := by
  induction l with
  | nil => intro i tg _ h; simp [numL] at h
  | cons b t ih =>
    intro i tg ht h
    by_cases c1 : b.toNat = 61 ∧ 0 < i
    · have e : numL (b :: t) i tg = (tg, i + 1, 0) := by unfold numL; rw [if_pos c1]
      unfold NumSpec
      rw [e]
      refine ⟨[], t, ?_, by simp, rfl, rfl, ht, by omega, by omega⟩
      rw [List.nil_append]; congr 1; exact u8_ext c1.1
    · by_cases c2 : ¬ isDig b ∨ (b.toNat = 48 ∧ i = 0)
      · exfalso; unfold numL at h; rw [if_neg c1, if_pos c2] at h; simp at h
      · by_cases c3 : 99999 < 10 * tg + (b.toNat - 48)
        · exfalso; unfold numL at h; rw [if_neg c1, if_neg c2, if_pos c3] at h; simp at h
        · have e : numL (b :: t) i tg = numL t (i + 1) (10 * tg + (b.toNat - 48)) := by
            conv => lhs; unfold numL
            rw [if_neg c1, if_neg c2, if_neg c3]
          rw [e] at h
          unfold NumSpec
          rw [e]
          obtain ⟨ds, rest, h1, h2, h3, h4, h5, _, _⟩ := ih (i + 1) _ (by omega) h
          have c2' : isDig b ∧ ¬ (b.toNat = 48 ∧ i = 0) := by
            refine ⟨?_, fun g => c2 (.inr g)⟩
            rcases Classical.em (isDig b) with g | g
            · exact g
            · exact absurd (.inl g) c2
          refine ⟨b :: ds, rest, by rw [h1]; rfl, ?_, by rw [h3, List.length_cons]; omega, by rw [h4, valFrom_cons], by rw [valFrom_cons]; exact h5, by simp, ?_⟩
          · intro x hx
            rcases List.mem_cons.1 hx with g | g
            · rw [g]; exact c2'.1
            · exact h2 x g
          · intro hi b' t' hb
            injection hb with hb _
            rw [← hb]; intro g; exact c2'.2 ⟨g, hi⟩
theorem numL_tag (l : List UInt8) (h : (numL l 0 0).2.2 = 0) : l.take (numL l 0 0).2.1 = digitsN (numL l 0 0).1 ++ [61] ∧ 1 ≤ (numL l 0 0).1 ∧ (numL l 0 0).1 ≤ 99999 := by
  obtain ⟨ds, rest, h1, h2, h3, h4, h5, h6, h7⟩ := numL_spec l 0 0 (by omega) h
  rw [h3, h4, valFrom_zero]
  have hd := digitsN_valOf ds (h6 rfl) h2 (.inr (h7 rfl))
  refine ⟨?_, ?_, h5⟩
  · rw [hd, h1, show 0 + ds.length + 1 = (ds ++ [61]).length by simp, show ds ++ 61 :: rest = (ds ++ [61]) ++ rest by simp, List.take_left]
  · rcases Nat.eq_zero_or_pos (valOf ds) with g | g
    · rw [g, digitsN_small (by omega)] at hd
      exact absurd (by decide) (h7 rfl _ _ hd.symm)
    · exact g
theorem textL_spec (n : Nat) : ∀ (l : List UInt8) (i : Nat), l.length ≤ n → i ≤ 512 → (textL l i).2 = 0 →
    ∃ v rest, l = v ++ 1 :: rest ∧ (textL l i).1 = i + v.length ∧ allMay v = true ∧ i + v.length ≤ 512 ∧ (i = 0 → v ≠ []) := by
  induction n with
  | zero => intro l i hn _ h; rw [List.eq_nil_of_length_eq_zero (show l.length = 0 by omega), textL_nil] at h; simp at h
  | succ n ih =>
    intro l i hn hi h
    by_cases hl : l = []
    · rw [hl, textL_nil] at h; simp at h
    · rw [textL_cons l hl] at h ⊢
      by_cases c1 : (dec l).1 = 1 ∧ 0 < i
      · rw [if_pos c1]
        obtain ⟨b, t, rfl⟩ : ∃ b t, l = b :: t := by
          cases l with
          | nil => exact absurd rfl hl
          | cons b t => exact ⟨b, t, rfl⟩
        have hb : b.toNat < 128 := by
          rcases Nat.lt_or_ge b.toNat 128 with g | g
          · exact g
          · have := dec_high b t g; omega
        rw [dec_ascii b t hb] at c1
        refine ⟨[], t, ?_, by simp, allMay_nil, by simpa using hi, by omega⟩
        rw [List.nil_append]; congr 1; exact u8_ext c1.1
      · rw [if_neg c1] at h ⊢
        by_cases c2 : mayB (dec l).1 = true ∧ i + (dec l).2 ≤ 512
        · rw [if_pos c2] at h ⊢
          have hw := dec_width l
          have hwl := dec_width_le l hl
          have hp := List.length_pos_iff.2 hl
          obtain ⟨v, rest, h1, h2, h3, h4, _⟩ := ih (l.drop (dec l).2) (i + (dec l).2) (by rw [List.length_drop]; omega) c2.2 h
          have hlen : (l.take (dec l).2).length = (dec l).2 := by rw [List.length_take]; omega
          have hne : l.take (dec l).2 ++ v ≠ [] := by
            intro g; have := congrArg List.length g; rw [List.length_append, hlen, List.length_nil] at this; omega
          have hnt : l.take (dec l).2 ≠ [] := by intro g; rw [g, List.length_nil] at hlen; omega
          have hdt := dec_take l (dec l).2 hl ((mayB_eq _).1 c2.1).2.2 (Nat.le_refl _)
          have hda : dec (l.take (dec l).2 ++ v) = dec l := by
            rw [dec_append _ v hnt (by rw [hdt]; exact ((mayB_eq _).1 c2.1).2.2), hdt]
          refine ⟨l.take (dec l).2 ++ v, rest, ?_, ?_, ?_, ?_, fun _ => hne⟩
          · rw [List.append_assoc, ← h1, List.take_append_drop]
          · rw [h2, List.length_append, hlen]; omega
          · rw [allMay_cons _ hne, hda, c2.1, Bool.true_and, List.drop_append_of_le_length (by omega), List.drop_eq_nil_of_le (by omega), List.nil_append]; exact h3
          · rw [List.length_append, hlen]; omega
        · rw [if_neg c2] at h; simp at h
theorem textL_value (l : List UInt8) (h : (textL l 0).2 = 0) : valueL (l.take (textL l 0).1) = true ∧ l.take ((textL l 0).1 + 1) = l.take (textL l 0).1 ++ [1] := by
  obtain ⟨v, rest, h1, h2, h3, h4, h5⟩ := textL_spec _ l 0 (Nat.le_refl _) (by omega) h
  rw [h2, Nat.zero_add]
  have e : l.take v.length = v := by rw [h1, List.take_left]
  rw [e]
  refine ⟨?_, ?_⟩
  · have : 1 ≤ v.length := by
      have := List.length_pos_iff.2 (h5 rfl); omega
    unfold valueL
    rw [decide_eq_true this, decide_eq_true (show v.length ≤ 512 by omega), h3]; rfl
  · rw [h1, show v.length + 1 = (v ++ [1]).length by simp, show v ++ 1 :: rest = (v ++ [1]) ++ rest by simp, List.take_left]
theorem nextL_form (l : List UInt8) (h : (nextL l).2.2 = 0) : formL ((nextL l).1.1 : Int) (nextL l).1.2 = (l.take (nextL l).2.1, 0) ∧ valueL (nextL l).1.2 = true ∧ 1 ≤ (nextL l).1.1 ∧ (nextL l).1.1 ≤ 99999 := by
  have h1 : (numL l 0 0).2.2 = 0 := by
    rcases Classical.em ((numL l 0 0).2.2 = 0) with g | g
    · exact g
    · unfold nextL at h; simp only at h; rw [if_pos g] at h; exact absurd h g
  have h2 : (textL (l.drop (numL l 0 0).2.1) 0).2 = 0 := by
    rcases Classical.em ((textL (l.drop (numL l 0 0).2.1) 0).2 = 0) with g | g
    · exact g
    · unfold nextL at h; simp only at h; rw [if_neg (by simpa using h1), if_pos g] at h; exact absurd h g
  have e : nextL l = (((numL l 0 0).1, (l.drop (numL l 0 0).2.1).take (textL (l.drop (numL l 0 0).2.1) 0).1), (numL l 0 0).2.1 + (textL (l.drop (numL l 0 0).2.1) 0).1 + 1, 0) := by
    unfold nextL; simp only; rw [if_neg (by simpa using h1), if_neg (by simpa using h2)]
  obtain ⟨a1, a2, a3⟩ := numL_tag l h1
  obtain ⟨b1, b2⟩ := textL_value _ h2
  rw [e]
  refine ⟨?_, b1, a2, a3⟩
  simp only
  unfold formL
  rw [if_neg (by omega), if_pos b1, Int.toNat_natCast, Nat.add_assoc, List.take_add, a1, b2]
  simp
theorem take_list (s : ByteArray) (n : Nat) : (s.extract 0 n).data.toList = s.data.toList.take n := by simp
theorem allMay_step {l : List UInt8} (hl : l ≠ []) (h : allMay l = true) : mayB (dec l).1 = true ∧ allMay (l.drop (dec l).2) = true := by
  rw [allMay_cons l hl, Bool.and_eq_true] at h; exact h
theorem drop_append_dec {v t : List UInt8} (hv : v ≠ []) : (v ++ t).drop (dec v).2 = v.drop (dec v).2 ++ t := by
  rw [List.drop_append_of_le_length (dec_width_le v hv)]
theorem valFrom_ge (ds : List UInt8) : ∀ tg, tg ≤ valFrom tg ds := by
  induction ds with
  | nil => intro tg; exact Nat.le_refl _
  | cons b ds ih => intro tg; rw [valFrom_cons]; have := ih (10 * tg + (b.toNat - 48)); omega
theorem numL_digits (ds : List UInt8) : ∀ (i tg : Nat) (rest : List UInt8), (∀ x ∈ ds, isDig x) → (i = 0 → ds ≠ []) → (i = 0 → ∀ b t, ds = b :: t → b.toNat ≠ 48) → valFrom tg ds ≤ 99999 →
    numL (ds ++ 61 :: rest) i tg = (valFrom tg ds, i + ds.length + 1, 0) := by
  induction ds with
  | nil =>
    intro i tg rest _ h0 _ hv
    rw [List.nil_append]; unfold numL
    rw [if_pos ⟨by decide, by rcases Nat.eq_zero_or_pos i with g | g; exact absurd rfl (h0 g); exact g⟩]; rfl
  | cons b ds ih =>
    intro i tg rest hd h0 hh hv
    have hb := hd b List.mem_cons_self
    rw [valFrom_cons] at hv ⊢
    have hge := valFrom_ge ds (10 * tg + (b.toNat - 48))
    rw [List.cons_append]; unfold numL
    rw [if_neg (by unfold isDig at hb; omega), if_neg (by
      rintro (g | ⟨g1, g2⟩)
      · exact g hb
      · exact hh g2 b ds rfl g1), if_neg (by omega), ih (i + 1) _ rest (fun x hx => hd x (List.mem_cons_of_mem _ hx)) (by omega) (by omega) hv]
    simp only [List.length_cons]; congr 2; omega
theorem textL_whole (n : Nat) : ∀ (v : List UInt8) (i : Nat) (rest : List UInt8), v.length ≤ n → allMay v = true → i + v.length ≤ 512 → (i = 0 → v ≠ []) → textL (v ++ 1 :: rest) i = (i + v.length, 0) := by
  have base : ∀ (i : Nat) (rest : List UInt8), (i = 0 → ([] : List UInt8) ≠ []) → textL ([] ++ 1 :: rest) i = (i + ([] : List UInt8).length, 0) := by
    intro i rest h0
    rw [List.nil_append, textL_cons _ (by simp), dec_ascii 1 rest (by decide), if_pos ⟨by decide, by rcases Nat.eq_zero_or_pos i with g | g; exact absurd rfl (h0 g); exact g⟩]; rfl
  induction n with
  | zero => intro v i rest h _ _ h0; obtain rfl := List.eq_nil_of_length_eq_zero (show v.length = 0 by omega); exact base i rest h0
  | succ n ih =>
    intro v i rest h hm hi h0
    by_cases hv : v = []
    · subst hv; exact base i rest h0
    · obtain ⟨hr, hm'⟩ := allMay_step hv hm
      have hp := List.length_pos_iff.2 hv
      have hw := dec_width v
      have hwl := dec_width_le v hv
      have hr' := (mayB_eq _).1 hr
      rw [textL_cons _ (by simp), dec_append v _ hv hr'.2.2, if_neg (by omega), if_pos ⟨hr, by omega⟩, drop_append_dec hv, ih _ _ rest (by rw [List.length_drop]; omega) hm' (by rw [List.length_drop]; omega) (by omega), List.length_drop]
      congr 1; omega
theorem formL_ok (t : Int) (v : List UInt8) (h : (formL t v).2 = 0) : (formL t v).1 = digitsN t.toNat ++ 61 :: (v ++ [1]) ∧ 1 ≤ t ∧ t ≤ 99999 ∧ v ≠ [] ∧ v.length ≤ 512 ∧ allMay v = true := by
  unfold formL at h ⊢
  split at h
  · simp at h
  · rename_i g
    rw [if_neg g]
    split at h
    · rename_i g2
      rw [if_pos g2]
      unfold valueL at g2
      simp only [Bool.and_eq_true, decide_eq_true_eq] at g2
      refine ⟨rfl, by omega, by omega, ?_, g2.2.1, g2.2.2⟩
      intro e; rw [e] at g2; simp at g2
    · simp at h
theorem numL_form (t : Nat) (rest : List UInt8) (h1 : 1 ≤ t) (h2 : t ≤ 99999) : numL (digitsN t ++ 61 :: rest) 0 0 = (t, (digitsN t).length + 1, 0) := by
  have hv : valFrom 0 (digitsN t) = t := valOf_digitsN t
  rw [numL_digits (digitsN t) 0 0 rest (digitsN_dig t) (fun _ => digitsN_ne t) (fun _ => digitsN_head t h1) (by omega), hv, Nat.zero_add]
theorem nextL_of {l : List UInt8} {tg k n : Nat} (h1 : numL l 0 0 = (tg, k, 0)) (h2 : textL (l.drop k) 0 = (n, 0)) : nextL l = ((tg, (l.drop k).take n), k + n + 1, 0) := by
  unfold nextL; simp only [h1, h2, ne_eq, not_true_eq_false, if_false]
theorem nextL_formed (t : Int) (v rest : List UInt8) (h : (formL t v).2 = 0) : nextL ((formL t v).1 ++ rest) = ((t.toNat, v), (formL t v).1.length, 0) := by
  obtain ⟨e, h1, h2, h3, h4, h5⟩ := formL_ok t v h
  rw [e]
  have e2 : digitsN t.toNat ++ 61 :: (v ++ [1]) ++ rest = digitsN t.toNat ++ 61 :: (v ++ 1 :: rest) := by simp
  have e3 : (digitsN t.toNat ++ 61 :: (v ++ 1 :: rest)).drop ((digitsN t.toNat).length + 1) = v ++ 1 :: rest := by
    rw [show digitsN t.toNat ++ 61 :: (v ++ 1 :: rest) = (digitsN t.toNat ++ [61]) ++ (v ++ 1 :: rest) by simp, show (digitsN t.toNat).length + 1 = (digitsN t.toNat ++ [61]).length by simp, List.drop_left]
  rw [e2, nextL_of (numL_form t.toNat _ (by omega) (by omega)) (by rw [e3]; exact textL_whole _ v 0 rest (Nat.le_refl _) h5 (by omega) (fun _ => h3)), e3, Nat.zero_add, List.take_left]
  simp only [List.length_append, List.length_cons, List.length_nil]
  congr 2
  omega
def readF (f : Int × List UInt8) : Nat × List UInt8 := (f.1.toNat, f.2)
theorem formsL_cons (f : Int × List UInt8) (r : List (Int × List UInt8)) (h : (formsL (f :: r)).2 = 0) : (formL f.1 f.2).2 = 0 ∧ (formsL r).2 = 0 ∧ (formsL (f :: r)).1 = (formL f.1 f.2).1 ++ (formsL r).1 := by
  have e : formsL (f :: r) = if (formL f.1 f.2).2 ≠ 0 then ([], (formL f.1 f.2).2) else if (formsL r).2 ≠ 0 then ([], (formsL r).2) else ((formL f.1 f.2).1 ++ (formsL r).1, 0) := by conv => lhs; unfold formsL
  rw [e] at h ⊢
  by_cases g : (formL f.1 f.2).2 = 0
  · by_cases g2 : (formsL r).2 = 0
    · rw [if_neg (by simpa using g), if_neg (by simpa using g2)]; exact ⟨g, g2, rfl⟩
    · rw [if_neg (by simpa using g), if_pos g2] at h; exact absurd h g2
  · rw [if_pos g] at h; exact absurd h g
theorem formL_ne (t : Int) (v : List UInt8) (h : (formL t v).2 = 0) : 1 ≤ (formL t v).1.length := by
  obtain ⟨e, _⟩ := formL_ok t v h
  rw [e]; simp; omega
theorem fieldsL_formed (l : List (Int × List UInt8)) : ∀ (c q : Nat), (formsL l).2 = 0 → c + l.length ≤ 64 → fieldsL (formsL l).1 c q = (l.map readF, q + (formsL l).1.length, 0) := by
  induction l with
  | nil => intro c q _ _; show fieldsL [] c q = _; rw [fieldsL_nil]; rfl
  | cons f r ih =>
    intro c q h hc
    obtain ⟨h1, h2, h3⟩ := formsL_cons f r h
    have hn := nextL_formed f.1 f.2 (formsL r).1 h1
    have hl := formL_ne f.1 f.2 h1
    rw [List.length_cons] at hc
    rw [h3]
    have hne : (formL f.1 f.2).1 ++ (formsL r).1 ≠ [] := by
      intro g; have := congrArg List.length g; rw [List.length_append, List.length_nil] at this; omega
    rw [fieldsL_next _ hne c q (by omega) (by rw [hn]), hn]
    simp only
    rw [List.drop_left, ih (c + 1) _ h2 (by omega), List.length_append]
    simp only [List.map_cons]
    rw [Nat.add_assoc]; rfl
def Opn {α : Type} (P : Program) (w : World) (t : TypeId) (d : Kd α) (ok : α → Prop) : Prop :=
  ∀ (H : Type) (enc : TypeId × Value → H) (fuel : Nat) (cs : List Value) (x : DataW H × List MemPlace), DataW.trod enc P w 0 (fun _ => true) true fuel t cs = some x → ∃ a, d.K w a cs ∧ ok a
theorem opn_int {P : Program} {w : World} {t : TypeId} {k : IntKind} (hu : P.underlying t = some (.int k)) : Opn P w t (Kd.int k) (fun n => (Lit.int k n).wf = true) := by
  intro H enc fuel cs x h
  obtain ⟨n, rfl, _, hw⟩ := DataW.trod_int hu h
  exact ⟨n, rfl, hw⟩
theorem opn_string {P : Program} {w : World} {t : TypeId} (hu : P.underlying t = some .string) : Opn P w t Kd.string (fun s => s.size ≤ 9223372036854775807) := by
  intro H enc fuel cs x h
  obtain ⟨n, rfl, _, hw⟩ := DataW.trod_string hu h
  exact ⟨n, rfl, hw⟩
theorem opn_slice_row {α : Type} [Inhabited α] {P : Program} {w : World} {t e : TypeId} {d : Kd α} {ok : α → Prop} (hu : P.underlying t = some (.slice e)) (hs : P.cellsOf e = d.sz) (hO : Opn P w e d ok) {H : Type} {enc : TypeId × Value → H} {fuel : Nat} {cs : List Value} {x : DataW H × List MemPlace}
    (h : DataW.trod enc P w 0 (fun _ => true) true fuel t cs = some x) : ∃ (A : Option Addr) (c : Nat) (l : List α), cs = [.slice A l.length c] ∧ l.length ≤ c ∧ c ≤ 9223372036854775807 ∧ Kd.C d w A l.length l ∧ ∀ a ∈ l, ok a := by
  rcases Go.Deep.open_slice hu h with ⟨rfl, _⟩ | ⟨a, len, cap, m, n, D, Pl, rfl, _, hl, hm, hmm, _, hi⟩
  · exact ⟨none, 0, [], rfl, Nat.le_refl _, by omega, ⟨rfl, by simp, fun h => absurd h (by simp)⟩, by simp⟩
  · have hm' : cap ≤ 9223372036854775807 := hm
    obtain ⟨f, hf⟩ := Go.Deep.choose_lt (n := len) (p := fun i (y : α) => ok y ∧ ∃ c, c.length = d.sz ∧ d.K w y c ∧ ∀ j u, c[j]? = some u → w.cell? (a.add (i * d.sz + j)) = some u) (fun i him => by
      obtain ⟨cs', hc, ht⟩ := hi i (by rw [hmm]; simp only [if_true]; omega)
      obtain ⟨y, hK, hok⟩ := hO H enc n cs' _ ht
      rw [hs] at hc
      obtain ⟨_, hcl, hat⟩ := World.cells?_some hc
      refine ⟨y, hok, cs', hcl, hK, fun j u hj => ?_⟩
      have hjl : j < d.sz := by
        have := (List.getElem?_eq_some_iff.1 hj).1; omega
      rw [← Go.Deep.add_add, hat j hjl, hj])
    have hlen : ((List.range len).map f).length = len := by simp
    refine ⟨some a, cap, (List.range len).map f, by rw [hlen], by rw [hlen]; exact hl, hm', ⟨rfl, by rw [hlen]; omega, fun _ => ⟨a, rfl, ?_⟩⟩, ?_⟩
    · intro j p hj
      have hjl : j < len := by have := (List.getElem?_eq_some_iff.1 hj).1; rw [hlen] at this; exact this
      rw [List.getElem?_map, List.getElem?_range hjl] at hj
      obtain rfl : f j = p := by simpa using hj
      exact (hf j hjl).2
    · intro y hy
      obtain ⟨j, hj, rfl⟩ := List.mem_map.1 hy
      exact (hf j (List.mem_range.1 hj)).1
theorem opn_slice {α : Type} [Inhabited α] {P : Program} {w : World} {t e : TypeId} {d : Kd α} {ok : α → Prop} (hu : P.underlying t = some (.slice e)) (hs : P.cellsOf e = d.sz) (hO : Opn P w e d ok) : Opn P w t (Kd.slice e d) (fun l => ∀ a ∈ l, ok a) := by
  intro H enc fuel cs x h
  obtain ⟨A, c, l, rfl, hc, _, hC, hok⟩ := opn_slice_row hu hs hO h
  exact ⟨l, ⟨A, c, rfl, hc, hC⟩, hok⟩
theorem opn_field {α : Type} {P : Program} {w : World} {H : Type} {enc : TypeId × Value → H} {fs : Array Field} {cs : List Value} {xs : List (DataW H × List MemPlace)} {n : Nat} {d : Kd α} {ok : α → Prop}
    (hf : ∀ (i : Nat) (f : Field), fs[i]? = some f → DataW.trod enc P w 0 (fun _ => true) true n f.type ((cs.drop f.offset).take (P.cellsOf f.type)) = xs[i]?) (i : Nat) (t : TypeId) (o s : Nat) (f : Field) (hi : fs[i]? = some f) (ht : f.type = t) (ho : f.offset = o) (hs : P.cellsOf t = s) (hx : i < xs.length)
    (hO : Opn P w t d ok) : ∃ a, d.K w a ((cs.drop o).take s) ∧ ok a := by
  subst ht ho hs
  exact hO H enc n _ _ ((hf i f hi).trans (List.getElem?_eq_getElem hx))
theorem opn_step {α β : Type} {a : Kd α} {b : Kd β} {w : World} {x : α} {y : β} {cs : List Value} {o s p : Nat} (h : a.K w x ((cs.drop o).take s)) (g : b.K w y (cs.drop p)) (e : o + s = p) : (Kd.pair a b).K w (x, y) (cs.drop o) :=
  ⟨(cs.drop o).take s, cs.drop p, by rw [← e, ← List.drop_drop, List.take_append_drop], h, g⟩
theorem opn_last {α : Type} {a : Kd α} {w : World} {x : α} {cs : List Value} {o s : Nat} (h : a.K w x ((cs.drop o).take s)) (e : cs.length = o + s) : a.K w x (cs.drop o) := by
  rwa [List.take_of_length_le (by rw [List.length_drop]; omega)] at h
def noP : List UInt8 → Nat → Nat × Nat
  | [], n => (n, 0)
  | b :: t, n => if ¬ isDig b then (0, 112) else if 9223372036854775807 < 10 * n + (b.toNat - 48) then (0, 112) else noP t (10 * n + (b.toNat - 48))
def numP (l : List UInt8) : Nat × Nat := if l = [] ∨ (l.getD 0 0 = 48 ∧ 1 < l.length) then (0, 112) else noP l 0
theorem noP_bad (b : UInt8) (t : List UInt8) (n : Nat) (h : ¬ isDig b) : noP (b :: t) n = (0, 112) := by unfold noP; rw [if_pos h]
theorem noP_big (b : UInt8) (t : List UInt8) (n : Nat) (h : isDig b) (g : 9223372036854775807 < 10 * n + (b.toNat - 48)) : noP (b :: t) n = (0, 112) := by unfold noP; rw [if_neg (by simpa using h), if_pos g]
theorem noP_go (b : UInt8) (t : List UInt8) (n : Nat) (h : isDig b) (g : ¬ 9223372036854775807 < 10 * n + (b.toNat - 48)) : noP (b :: t) n = noP t (10 * n + (b.toNat - 48)) := by conv => lhs; unfold noP
                                                                                                                                                                                   rw [if_neg (by simpa using h), if_neg g]
structure FormS where
  order : List Int
  vals : Int → Option ByteArray
  asked : Int → Bool
  tag : Int
  e : Int
structure PlS where
  A : Option Addr
  c : Nat
  v : Nat
  a : Nat
def i64ok (t : Int) : Prop := (Lit.int .i64 t).wf = true
theorem i64ok_of {t : Int} (h0 : -9223372036854775808 ≤ t) (h1 : t ≤ 9223372036854775807) : i64ok t := by
  simp only [i64ok, Lit.wf, Bool.and_eq_true, decide_eq_true_eq]; exact ⟨h0, h1⟩
def ValsIs (w : World) (b n : Nat) (vals : Int → Option ByteArray) : Prop :=
  ∃ D : DataW Unit, w.ownsMap Tryz.prog 3 (plainElem Tryz.prog 9) b n D ∧ (∀ t, i64ok t → Maps.has D (.int .i64 t) = (vals t).isSome) ∧
    ∀ t, i64ok t → D.atKey (.int .i64 t) (.lit (.string [])) = .lit (.string ((vals t).getD ⟨#[]⟩).data.toList)
def AskedIs (w : World) (b n : Nat) (asked : Int → Bool) : Prop :=
  ∃ D : DataW Unit, w.ownsMap Tryz.prog 3 (plainElem Tryz.prog 4) b n D ∧ ∀ t, i64ok t → D.atKey (.int .i64 t) (.lit (.bool false)) = .lit (.bool (asked t))
theorem addr_block (ad : Addr) (i : Nat) : (ad.add i).block = ad.block := by unfold Addr.add; split <;> rfl
structure FormIs (g : Nat) (p : PlS) (F : FormS) (k : Nat) (w : World) : Prop where
  c0 : w.cell? ⟨g, 0, none⟩ = some (.slice p.A F.order.length p.c)
  c1 : w.cell? ⟨g, 1, none⟩ = some (.map (some p.v))
  c2 : w.cell? ⟨g, 2, none⟩ = some (.map (some p.a))
  c3 : w.cell? ⟨g, 3, none⟩ = some (.int .i64 F.tag)
  c4 : w.cell? ⟨g, 4, none⟩ = some (.int .i64 F.e)
  l3 : w.frozen? ⟨g, 3, none⟩ = false
  l4 : w.frozen? ⟨g, 4, none⟩ = false
  vals : ValsIs w p.v F.order.length F.vals
  asked : AskedIs w p.a k F.asked
  ord : ∀ i, i < F.order.length → ∃ ad, p.A = some ad ∧ w.cell? (ad.add i) = some (.int .i64 (F.order.getD i 0)) ∧ i64ok (F.order.getD i 0)
  gv : g ≠ p.v
  ga : g ≠ p.a
  va : p.v ≠ p.a
  oa : ∀ a, p.A = some a → a.block ≠ g ∧ a.block ≠ p.a
structure Turned (S : Nat → Prop) (w w' : World) : Prop where
  os : w'.os = w.os
  tape : w'.tape = w.tape
  output : w'.output = w.output
  size : w.heap.size ≤ w'.heap.size
  block : ∀ k, k < w.heap.size → ¬ S k → w'.heap[k]? = w.heap[k]?
theorem Turned.refl (S : Nat → Prop) (w : World) : Turned S w w := ⟨rfl, rfl, rfl, Nat.le_refl _, fun _ _ _ => rfl⟩
theorem Turned.trans {S : Nat → Prop} {a b c : World} (h : Turned S a b) (k : Turned S b c) : Turned S a c :=
  ⟨k.os.trans h.os, k.tape.trans h.tape, k.output.trans h.output, Nat.le_trans h.size k.size, fun i hi hs => (k.block i (Nat.lt_of_lt_of_le hi h.size) hs).trans (h.block i hi hs)⟩
theorem Turned.of_below {S : Nat → Prop} {w w' : World} (h : Below w.heap.size w w') : Turned S w w' := ⟨h.os, h.tape, h.output, h.size, fun k hk _ => h.block k hk⟩
theorem Turned.of_grown {S : Nat → Prop} {w w' : World} {b : Nat} (h : w.grownBy w' (some b)) (hb : S b) : Turned S w w' :=
  ⟨h.os, h.tape, h.output, h.size, fun k hk hs => h.block k hk (fun e => hs (by cases e; exact hb))⟩
theorem Turned.of_grown' {S : Nat → Prop} {w w' : World} {row : Option Nat} (h : w.grownBy w' row) (hb : ∀ b, row = some b → S b) : Turned S w w' :=
  ⟨h.os, h.tape, h.output, h.size, fun k hk hs => h.block k hk (fun e => hs (hb k e.symm))⟩
theorem Turned.drew {S : Nat → Prop} {a w : World} (h : Turned S a w) : Turned S a w.drew := ⟨h.os, h.tape, h.output, h.size, h.block⟩
theorem Turned.drewN {S : Nat → Prop} {a w : World} (h : Turned S a w) (q : Nat) : Turned S a (w.drewN q) := ⟨h.os, h.tape, h.output, h.size, h.block⟩
theorem Turned.setCell {S : Nat → Prop} {a w : World} (h : Turned S a w) {p : Addr} (hp : S p.block) (u : Value) : Turned S a (w.setCell p u) :=
  h.trans ⟨rfl, rfl, rfl, by simp [World.setCell], fun k hk hs => Below.heap_setCell _ _ _ _ (fun e => hs (by rw [e]; exact hp))⟩
theorem Turned.alloc {S : Nat → Prop} {a w : World} (h : Turned S a w) (o : Obj) : Turned S a (w.alloc o) := h.trans (Turned.of_below ((Below.refl _ _).alloc (Nat.le_refl _) _))
theorem Turned.below {S : Nat → Prop} {B : Nat} {w w' : World} (h : Turned S w w') (hS : ∀ k, S k → B ≤ k) (hB : B ≤ w.heap.size) : Below B w w' :=
  ⟨h.os, h.tape, h.output, h.size, fun k hk => h.block k (by omega) (fun s => by have := hS k s; omega)⟩
theorem Turned.cell {S : Nat → Prop} {w w' : World} (h : Turned S w w') {p : Addr} {v : Value} (hv : w.cell? p = some v) (hs : ¬ S p.block) : w'.cell? p = some v :=
  (World.cell?_of_block (h.block p.block (World.block_lt_of_cell? w _ hv) hs)).trans hv
def FormB (g : Nat) (p : PlS) (k : Nat) : Prop := k = g ∨ k = p.a
section
variable {g : Nat} {p : PlS} {F : FormS} {k : Nat} {w w' : World}
theorem ValsIs.turned {S : Nat → Prop} {b n : Nat} {vals : Int → Option ByteArray} (h : ValsIs w b n vals) (ht : Turned S w w') (hs : ¬ S b) : ValsIs w' b n vals := by
  obtain ⟨D, h1, h2⟩ := h
  obtain ⟨es, clock, hb, F, hz, hD⟩ := h1
  exact ⟨D, ⟨es, clock, (ht.block b (Array.getElem?_eq_some_iff.1 hb).1 hs).trans hb, F, hz, hD⟩, h2⟩
theorem AskedIs.turned {S : Nat → Prop} {b n : Nat} {asked : Int → Bool} (h : AskedIs w b n asked) (ht : Turned S w w') (hs : ¬ S b) : AskedIs w' b n asked := by
  obtain ⟨D, h1, h2⟩ := h
  obtain ⟨es, clock, hb, F, hz, hD⟩ := h1
  exact ⟨D, ⟨es, clock, (ht.block b (Array.getElem?_eq_some_iff.1 hb).1 hs).trans hb, F, hz, hD⟩, h2⟩
theorem FormIs.lt (h : FormIs g p F k w) : g < w.heap.size := World.block_lt_of_cell? w _ h.c0
theorem FormIs.turned {S : Nat → Prop} (h : FormIs g p F k w) (ht : Turned S w w') (hg : ¬ S g) (ha : ¬ S p.a) (hv : ¬ S p.v) (ho : ∀ a, p.A = some a → ¬ S a.block) : FormIs g p F k w' := by
  have hgb := ht.block g h.lt hg
  refine ⟨ht.cell h.c0 hg, ht.cell h.c1 hg, ht.cell h.c2 hg, ht.cell h.c3 hg, ht.cell h.c4 hg, ?_, ?_, h.vals.turned ht hv, h.asked.turned ht ha, ?_, h.gv, h.ga, h.va, h.oa⟩
  · exact (World.frozen?_of_block (w := w) (a := ⟨g, 3, none⟩) hgb).trans h.l3
  · exact (World.frozen?_of_block (w := w) (a := ⟨g, 4, none⟩) hgb).trans h.l4
  · intro i hi
    obtain ⟨ad, hA, hc, ho2⟩ := h.ord i hi
    exact ⟨ad, hA, ht.cell hc (by rw [addr_block]; exact ho ad hA), ho2⟩
theorem FormIs.below (h : FormIs g p F k w) (hb : Below w.heap.size w w') : FormIs g p F k w' :=
  h.turned (Turned.of_below (S := fun _ => False) hb) (fun x => x) (fun x => x) (fun x => x) (fun _ _ x => x)
end
theorem zero_string (w : World) : (zeroValue 9).run Tryz.prog w = .ok (.string ⟨#[]⟩) w := by kernel_rfl
theorem zero_bool (w : World) : (zeroValue 4).run Tryz.prog w = .ok (.bool false) w := by kernel_rfl
theorem ValsIs.look {w : World} {b n : Nat} {vals : Int → Option ByteArray} (h : ValsIs w b n vals) (t : Int) (ht : i64ok t) :
    (Instr.lookup 93 (.map (some b)) (.int .i64 t) false).run Tryz.prog w = .ok (.string ((vals t).getD ⟨#[]⟩)) w := by
  obtain ⟨D, h1, _, h3⟩ := h
  obtain ⟨v, ps, hrun, hv⟩ := h1.lookup (Go.Maps.int_keyed Tryz.underlying3) Tryz.underlying93 (z := .string ⟨#[]⟩) (zero_string w) (zd := .lit (.string [])) (zp := []) (plainElem_string Tryz.underlying9 (by decide)) (Go.Maps.keyOf_int_mk Tryz.underlying3 ht)
  rw [h3 t ht] at hv
  rw [hrun]
  obtain ⟨x, rfl, hx, _⟩ := plainElem_string_inv Tryz.underlying9 hv
  simp only [Prod.mk.injEq, DataW.lit.injEq, Lit.string.injEq] at hx
  rw [show x = (vals t).getD ⟨#[]⟩ from ByteArray.ext (Array.toList_inj.1 hx.1.symm)]
theorem plainElem_bool_inv {H : Type} {P : Program} {e : TypeId} (he : P.underlying e = some .bool) {v : Value} {z : DataW H × List MemPlace} (h : plainElem P e v = some z) : ∃ x, v = .bool x ∧ z = (.lit (.bool x), []) := by
  unfold plainElem at h
  rw [he] at h
  cases v <;> simp at h
  subst h
  exact ⟨_, rfl, rfl⟩
theorem AskedIs.look {w : World} {b n : Nat} {asked : Int → Bool} (h : AskedIs w b n asked) (t : Int) (ht : i64ok t) :
    (Instr.lookup 94 (.map (some b)) (.int .i64 t) false).run Tryz.prog w = .ok (.bool (asked t)) w := by
  obtain ⟨D, h1, h3⟩ := h
  obtain ⟨v, ps, hrun, hv⟩ := h1.lookup (Go.Maps.int_keyed Tryz.underlying3) Tryz.underlying94 (z := .bool false) (zero_bool w) (zd := .lit (.bool false)) (zp := []) (plainElem_bool Tryz.underlying4 false) (Go.Maps.keyOf_int_mk Tryz.underlying3 ht)
  rw [h3 t ht] at hv
  rw [hrun]
  obtain ⟨x, rfl, hx⟩ := plainElem_bool_inv Tryz.underlying4 hv
  simp only [Prod.mk.injEq, DataW.lit.injEq, Lit.bool.injEq] at hx
  rw [hx.1]
theorem ValsIs.has {w : World} {b n : Nat} {vals : Int → Option ByteArray} (h : ValsIs w b n vals) (t : Int) (ht : i64ok t) :
    (Instr.lookup 93 (.map (some b)) (.int .i64 t) true).run Tryz.prog w = .ok (.tuple #[.string ((vals t).getD ⟨#[]⟩), .bool (vals t).isSome]) w := by
  obtain ⟨D, h1, h2, h3⟩ := h
  obtain ⟨v, ps, hrun, hv⟩ := h1.look_ok (Go.Maps.int_keyed Tryz.underlying3) Tryz.underlying93 (z := .string ⟨#[]⟩) (zero_string w) (zd := .lit (.string [])) (zp := []) (plainElem_string Tryz.underlying9 (by decide)) (Go.Maps.keyOf_int_mk Tryz.underlying3 ht)
  rw [h3 t ht] at hv
  rw [hrun, h2 t ht]
  obtain ⟨x, rfl, hx, _⟩ := plainElem_string_inv Tryz.underlying9 hv
  simp only [Prod.mk.injEq, DataW.lit.injEq, Lit.string.injEq] at hx
  rw [show x = (vals t).getD ⟨#[]⟩ from ByteArray.ext (Array.toList_inj.1 hx.1.symm)]
theorem AskedIs.put {w : World} {b n : Nat} {asked : Int → Bool} (h : AskedIs w b n asked) (t : Int) (ht : i64ok t) (hn : n < 9223372036854775807) :
    ∃ w', (Instr.mapUpdate 94 (.map (some b)) (.int .i64 t) (.bool true)).run Tryz.prog w = .ok () w' ∧ AskedIs w' b (n + 1) (fun x => if x = t then true else asked x) ∧ w.grownBy w' (some b) := by
  obtain ⟨D, h1, h3⟩ := h
  obtain ⟨w', hrun, h4, h5⟩ := h1.update (Go.Maps.int_keyed Tryz.underlying3) Tryz.underlying94 (by unfold maxLen; omega) (Go.Maps.keyOf_int_mk Tryz.underlying3 ht) (plainElem_bool (H := Unit) Tryz.underlying4 true)
  refine ⟨w', hrun, ⟨_, h4, fun x hx => ?_⟩, h5⟩
  by_cases c : x = t
  · subst c
    simp only [if_true]
    rw [Go.Maps.atKey_put_same h1.isMap (show Go.WideAt.IsKeyLit (.int .i64 x) from trivial)]
  · simp only [if_neg c]
    rw [Go.Maps.atKey_put_other (by intro e; cases e; exact c rfl)]
    exact h3 x hx
theorem ValsIs.put {w : World} {b n : Nat} {vals : Int → Option ByteArray} (h : ValsIs w b n vals) (t : Int) (ht : i64ok t) (v : ByteArray) (hv : v.size ≤ 9223372036854775807) (hn : n < 9223372036854775807) :
    ∃ w', (Instr.mapUpdate 93 (.map (some b)) (.int .i64 t) (.string v)).run Tryz.prog w = .ok () w' ∧ ValsIs w' b (n + 1) (fun x => if x = t then some v else vals x) ∧ w.grownBy w' (some b) := by
  obtain ⟨D, h1, h2, h3⟩ := h
  obtain ⟨w', hrun, h4, h5⟩ := h1.update (Go.Maps.int_keyed Tryz.underlying3) Tryz.underlying93 (by unfold maxLen; omega) (Go.Maps.keyOf_int_mk Tryz.underlying3 ht) (plainElem_string (H := Unit) Tryz.underlying9 (s := v) (by unfold maxLen; omega))
  refine ⟨w', hrun, ⟨_, h4, fun x hx => ?_, fun x hx => ?_⟩, h5⟩
  · by_cases c : x = t
    · subst c
      simp only [if_true]
      rw [Go.Maps.has_put_same h1.isMap (show Go.WideAt.IsKeyLit (.int .i64 x) from trivial)]; rfl
    · simp only [if_neg c]
      rw [Go.Maps.has_put_other (by intro e; cases e; exact c rfl)]
      exact h2 x hx
  · by_cases c : x = t
    · subst c
      simp only [if_true]
      rw [Go.Maps.atKey_put_same h1.isMap (show Go.WideAt.IsKeyLit (.int .i64 x) from trivial)]; rfl
    · simp only [if_neg c]
      rw [Go.Maps.atKey_put_other (by intro e; cases e; exact c rfl)]
      exact h3 x hx
theorem FormIs.ask {g : Nat} {p : PlS} {F : FormS} {k k' : Nat} {w w1 : World} {f : Int → Bool} (h : FormIs g p F k w) (hA : AskedIs w1 p.a k' f) (hg : w.grownBy w1 (some p.a)) : FormIs g p { F with asked := f } k' w1 := by
  have ht : Turned (fun x => x = p.a) w w1 := Turned.of_grown hg rfl
  have hgb := ht.block g h.lt h.ga
  refine ⟨ht.cell h.c0 h.ga, ht.cell h.c1 h.ga, ht.cell h.c2 h.ga, ht.cell h.c3 h.ga, ht.cell h.c4 h.ga, ?_, ?_, h.vals.turned ht h.va, hA, ?_, h.gv, h.ga, h.va, h.oa⟩
  · exact (World.frozen?_of_block (w := w) (a := ⟨g, 3, none⟩) hgb).trans h.l3
  · exact (World.frozen?_of_block (w := w) (a := ⟨g, 4, none⟩) hgb).trans h.l4
  · intro i hi
    obtain ⟨ad, hA, hc, ho2⟩ := h.ord i hi
    exact ⟨ad, hA, ht.cell hc (by rw [addr_block]; exact (h.oa ad hA).2), ho2⟩
theorem map_ne (x : Nat) (w : World) : (binOp .neq 93 (.map (some x)) (.map none)).run Tryz.prog w = .ok (.bool true) w := by kernel_rfl
def takeInt (s : ByteArray) (low high : Int) : Int × Int :=
  if (numP s.data.toList).2 = 0 ∧ (((numP s.data.toList).1 : Int) < low ∨ ((numP s.data.toList).1 : Int) > high) then ((numP s.data.toList).1, 2) else ((numP s.data.toList).1, (numP s.data.toList).2)
def FormS.mark (F : FormS) (t : Int) : FormS := { F with asked := fun x => if x = t then true else F.asked x }
def FormS.fail (F : FormS) (t e : Int) : FormS := { F with tag := t, e := e }
def askL {α : Type} (take : ByteArray → α × Int) (zero : α) (F : FormS) (t : Int) : α × FormS :=
  if F.e ≠ 0 then (zero, F) else
  match F.vals t with
  | none => (zero, (F.mark t).fail t 110)
  | some s => if (take s).2 = 0 then ((take s).1, F.mark t) else (zero, (F.mark t).fail t (take s).2)
theorem FormIs.fail {g : Nat} {p : PlS} {F : FormS} {k : Nat} {w : World} (h : FormIs g p F k w) (t e : Int) :
    FormIs g p (F.fail t e) k ((w.setCell ⟨g, 3, none⟩ (.int .i64 t)).setCell ⟨g, 4, none⟩ (.int .i64 e)) := by
  have ht : Turned (fun x => x = g) w ((w.setCell ⟨g, 3, none⟩ (.int .i64 t)).setCell ⟨g, 4, none⟩ (.int .i64 e)) := Turned.setCell (S := fun x => x = g) (Turned.setCell (S := fun x => x = g) (Turned.refl _ _) (p := ⟨g, 3, none⟩) rfl _) (p := ⟨g, 4, none⟩) rfl _
  have o1 : ∀ (i : Nat) (v : Value), i < 3 → w.cell? ⟨g, i, none⟩ = some v → ((w.setCell ⟨g, 3, none⟩ (.int .i64 t)).setCell ⟨g, 4, none⟩ (.int .i64 e)).cell? ⟨g, i, none⟩ = some v := fun i v hi hv =>
    (World.cell?_setCell_other _ _ _ _ (by intro e; injection e; omega)).trans ((World.cell?_setCell_other _ _ _ _ (by intro e; injection e; omega)).trans hv)
  refine ⟨o1 0 _ (by omega) h.c0, o1 1 _ (by omega) h.c1, o1 2 _ (by omega) h.c2, ?_, ?_, ?_, ?_, h.vals.turned ht (fun e => h.gv e.symm), h.asked.turned ht (fun e => h.ga e.symm), ?_, h.gv, h.ga, h.va, h.oa⟩
  · exact (World.cell?_setCell_other _ _ _ _ (by simp)).trans (World.cell?_setCell_same _ _ _ h.c3)
  · exact World.cell?_setCell_same _ _ _ ((World.cell?_setCell_other _ _ _ _ (by simp)).trans h.c4)
  · rw [World.frozen?_setCell, World.frozen?_setCell]; exact h.l3
  · rw [World.frozen?_setCell, World.frozen?_setCell]; exact h.l4
  · intro i hi
    obtain ⟨ad, hA, hc, ho2⟩ := h.ord i hi
    exact ⟨ad, hA, ht.cell hc (by rw [addr_block]; exact (h.oa ad hA).1), ho2⟩
theorem FormIs.mono {g : Nat} {p : PlS} {F : FormS} {k k' : Nat} {w : World} (h : FormIs g p F k w) (hk : k ≤ k') : FormIs g p F k' w := by
  obtain ⟨D, h1, h2⟩ := h.asked
  exact ⟨h.c0, h.c1, h.c2, h.c3, h.c4, h.l3, h.l4, h.vals, ⟨D, h1.mono hk, h2⟩, h.ord, h.gv, h.ga, h.va, h.oa⟩
theorem askL_off {α : Type} (take : ByteArray → α × Int) (z : α) (F : FormS) (t : Int) (h : F.e ≠ 0) : askL take z F t = (z, F) := by unfold askL; rw [if_pos h]
theorem askL_none {α : Type} (take : ByteArray → α × Int) (z : α) (F : FormS) (t : Int) (h : F.e = 0) (hv : F.vals t = none) : askL take z F t = (z, (F.mark t).fail t 110) := by unfold askL; rw [if_neg (by simpa using h), hv]
theorem askL_some {α : Type} (take : ByteArray → α × Int) (z : α) (F : FormS) (t : Int) (h : F.e = 0) {s : ByteArray} (hv : F.vals t = some s) : askL take z F t = if (take s).2 = 0 then ((take s).1, F.mark t) else (z, (F.mark t).fail t (take s).2) := by unfold askL; rw [if_neg (by simpa using h), hv]
theorem FormIs.alt {g : Nat} {p : PlS} {F : FormS} {k : Nat} {w : World} (h : FormIs g p F k w) : p.a < w.heap.size := by
  obtain ⟨D, hD, _⟩ := h.asked
  exact hD.lt
def consHead (b : UInt8) : List (List UInt8) → List (List UInt8)
  | [] => [[b]]
  | h :: t => (b :: h) :: t
def splitC (c : UInt8) : List UInt8 → List (List UInt8)
  | [] => [[]]
  | b :: l => if b = c then [] :: splitC c l else consHead b (splitC c l)
theorem splitC_ne (c : UInt8) (l : List UInt8) : splitC c l ≠ [] := by
  cases l with
  | nil => simp [splitC]
  | cons b l =>
    unfold splitC
    split
    · simp
    · cases splitC c l <;> simp [consHead]
end Go.Proofs.YtgfigkfcmkdjdaaGreatDoor.B
end
