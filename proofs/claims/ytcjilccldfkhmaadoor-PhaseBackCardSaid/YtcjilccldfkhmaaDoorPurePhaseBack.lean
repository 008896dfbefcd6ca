/- What is printed is read as it was, and what is read is printed the same; shifted by nothing a day is what it was. -/
import Derived.Test.YtcjilccldfkhmaaDoorOwnPhaseBack
namespace Go.Proofs.YtcjilccldfkhmaaDoor.Pure
open Go.RowKit Go.Proofs.YtcjilccldfkhmaaDoor.B Go.Proofs.YtcjilccldfkhmaaDoorW.PrintWords Go.Proofs.YtcjilccldfkhmaaDoorW.PrintLast Go.Proofs.YtcjilccldfkhmaaDoor.phaseBack
set_option linter.unusedVariables false
set_option linter.unusedSimpArgs false
def letK (k : Int) : UInt8 := if k = 1 then 99 else if k = 2 then 111 else if k = 3 then 116 else 101
def wordO (x : S37) : List UInt8 := letK x.f1 :: digitsN x.f0.toNat
def printO (l : List S37) : List UInt8 := Lib.join (l.map wordO) [32]
def okO (x : S37) : Prop := 1 ≤ x.f1 ∧ x.f1 ≤ 4 ∧ 0 ≤ x.f0 ∧ x.f0 ≤ 1099511627776
theorem day_ok {l : List S37} (hd : dayL (l.map prP) = true) : ∀ x ∈ l, okO x := fun x hx => day_mem hd (prP x) (List.mem_map.2 ⟨x, hx, rfl⟩)
theorem noP_digsB (ds : List UInt8) : ∀ (m : Nat) (r : List UInt8), (∀ x ∈ ds, isDig x) → valFrom m ds ≤ 9223372036854775807 → noP (ds ++ r) m = noP r (valFrom m ds) := by
  induction ds with
  | nil => intro m r _ _; rfl
  | cons b t ih =>
    intro m r hd hv
    rw [valFrom_cons] at hv ⊢
    have hge := valFrom_ge t (10 * m + (b.toNat - 48))
    rw [List.cons_append, noP_go b (t ++ r) m (hd b (by simp)) (by omega)]
    exact ih _ r (fun x hx => hd x (by simp [hx])) hv
theorem numP_digitsB (n : Nat) (h : n ≤ 9223372036854775807) : numP (digitsN n) = (n, 0) := by
  have hne := digitsN_ne n
  have hv : valFrom 0 (digitsN n) = n := by rw [valFrom_zero, valOf_digitsN]
  unfold numP
  rw [if_neg (by
    rintro (g | ⟨g1, g2⟩)
    · exact hne g
    · by_cases c : n < 10
      · rw [digitsN_small c] at g2; simp at g2
      · match hd : digitsN n with
        | [] => exact hne hd
        | b :: t =>
          rw [hd] at g1
          have := digitsN_head n (by omega) b t hd
          simp at g1
          exact this (by rw [g1]; rfl))]
  have := noP_digsB (digitsN n) 0 [] (digitsN_dig n) (by omega)
  rw [List.append_nil, hv] at this
  exact this
theorem noP_all (l : List UInt8) : ∀ m, (noP l m).2 = 0 → (∀ x ∈ l, isDig x) ∧ (noP l m).1 = valFrom m l := by
  induction l with
  | nil => intro m _; exact ⟨by simp, rfl⟩
  | cons b t ih =>
    intro m h
    by_cases hd : isDig b
    · by_cases hg : 9223372036854775807 < 10 * m + (b.toNat - 48)
      · rw [noP_big b t m hd hg] at h; simp at h
      · rw [noP_go b t m hd hg] at h ⊢
        have := ih _ h
        refine ⟨fun x hx => ?_, by rw [valFrom_cons]; exact this.2⟩
        rcases List.mem_cons.1 hx with rfl | hx
        · exact hd
        · exact this.1 x hx
    · rw [noP_bad b t m hd] at h; simp at h
theorem numP_back (l : List UInt8) (h : (numP l).2 = 0) : digitsN (numP l).1 = l := by
  unfold numP at h ⊢
  split at h
  · simp at h
  · rename_i hc
    rw [if_neg hc]
    have ha := noP_all l 0 h
    rw [ha.2, valFrom_zero]
    have hne : l ≠ [] := fun e => hc (.inl e)
    refine digitsN_valOf l hne ha.1 ?_
    by_cases h1 : l.length = 1
    · exact .inl h1
    · refine .inr fun b t e hb => hc (.inr ⟨?_, ?_⟩)
      · rw [e]; exact u8_ext hb
      · have := List.length_pos_iff.2 hne; omega
theorem kind_let (b : UInt8) (k : Nat) (h : kindU 4 b = k) (hk : 0 < k) : letK (k : Int) = b := by
  unfold kindU at h
  have hx : ∀ n : Nat, (hn : b.toNat = n) → n < 256 → b = UInt8.ofNat n := fun n hn hl => u8_ext (by rw [ofNat_toNat_small hl]; exact hn)
  split at h
  · rename_i c; subst h; rw [hx 99 c.1 (by decide)]; rfl
  split at h
  · rename_i c; subst h; rw [hx 111 c.1 (by decide)]; rfl
  split at h
  · rename_i c; subst h; rw [hx 116 c.1 (by decide)]; rfl
  split at h
  · rename_i c; subst h; rw [hx 101 c.1 (by decide)]; rfl
  · omega
theorem kind_ok (k : Int) (h1 : 1 ≤ k) (h4 : k ≤ 4) : (kindU 4 (letK k) : Int) = k := by
  rcases (show k = 1 ∨ k = 2 ∨ k = 3 ∨ k = 4 by omega) with rfl | rfl | rfl | rfl <;> decide
theorem word_good (x : S37) (h : okO x) : wordP (wordO x) = ((x.f0.toNat, x.f1.toNat), true) := by
  have hk := kind_ok x.f1 h.1 h.2.1
  have hk2 : kindU 4 (letK x.f1) = x.f1.toNat := by omega
  have hn := numP_digitsB x.f0.toNat (by have := h.2.2; omega)
  unfold wordP wordO
  rw [if_neg (by simp)]
  have : 0 < x.f1.toNat := by have := h.1; omega
  simp [hn, hk2, this]
theorem word_back (w : List UInt8) (h : (wordP w).2 = true) : wordO ⟨((wordP w).1.1 : Int), ((wordP w).1.2 : Int)⟩ = w := by
  cases w with
  | nil => simp [wordP] at h
  | cons b t =>
    unfold wordP at h ⊢
    rw [if_neg (by simp)] at h ⊢
    simp only [List.tail_cons, List.headD_cons, Bool.and_eq_true, decide_eq_true_eq] at h ⊢
    unfold wordO
    simp only [Int.toNat_natCast]
    rw [kind_let b _ rfl (of_decide_eq_true h.1), numP_back t (of_decide_eq_true h.2)]
def toPh (w : ByteArray) : S37 := ⟨((wordP w.data.toList).1.1 : Int), ((wordP w.data.toList).1.2 : Int)⟩
def goodW (w : ByteArray) : Bool := (wordP w.data.toList).2
def chkO (x : List S37) : List S37 × Int := if dayL (x.map prP) = true then (x, 0) else ([], 370)
theorem read_loop (ws : List ByteArray) (hb : ∀ w ∈ ws, w.size ≤ 100000) (hl : ws.length ≤ 100000) (d : Nat) : ∀ (k i : Nat) (acc : List S37), i + d = ws.length → acc.length = i → d < k →
    phase_Read.l0 k acc ws (ws.length : Int) (i : Int) = some (if (ws.drop i).all goodW = true then chkO (acc ++ (ws.drop i).map toPh) else ([], 112)) := by
  induction d with
  | zero =>
    intro k i acc hi ha hk
    obtain ⟨k, rfl⟩ : ∃ m, k = m + 1 := ⟨k - 1, by omega⟩
    simp only [phase_Read.l0]
    rw [if_neg (by omega), List.drop_eq_nil_of_le (by omega)]
    unfold phase_Check.f chkO
    simp only [Option.bind_some, List.all_nil, if_true, List.map_nil, List.append_nil]
    by_cases c : dayL (acc.map prP) = true
    · rw [if_pos c, if_pos c, if_pos rfl]
    · rw [if_neg c, if_neg c, if_neg (by decide)]
  | succ d ih =>
    intro k i acc hi ha hk
    obtain ⟨k, rfl⟩ : ∃ m, k = m + 1 := ⟨k - 1, by omega⟩
    have hlt : i < ws.length := by omega
    have hrd : rdOf ByteArray.empty ws (i : Int) = ws[i] := by simp [rdOf, hlt]
    have hwb := hb _ (List.getElem_mem hlt)
    simp only [phase_Read.l0]
    rw [if_pos (by omega), if_pos (by omega), if_pos (by omega), hrd, List.drop_eq_getElem_cons hlt]
    unfold phase_word.f
    rw [if_pos (by omega)]
    simp only [Option.bind_some, List.all_cons, List.map_cons]
    by_cases c : (wordP ws[i].data.toList).2 = true
    · rw [if_pos c, if_pos (by omega), w64 (x := (i : Int) + 1) (by omega) (by omega), show ((i : Int) + 1) = ((i + 1 : Nat) : Int) by omega, ih k (i + 1) _ (by omega) (by simp [ha]) (by omega)]
      rw [show goodW ws[i] = true from c, Bool.true_and, List.append_assoc]
      rfl
    · rw [if_neg c]
      rw [show goodW ws[i] = false from by unfold goodW; simpa using c, Bool.false_and, if_neg (by decide)]
theorem join_cons1 (x : List UInt8) (y : List UInt8) (r : List (List UInt8)) (c : UInt8) : Lib.join (x :: y :: r) [c] = x ++ c :: Lib.join (y :: r) [c] := by
  simp [Lib.join, List.intercalate, List.intersperse]
theorem join_split (c : UInt8) (l : List UInt8) : Lib.join (splitC c l) [c] = l := by
  induction l with
  | nil => simp [splitC, Lib.join_one]
  | cons b t ih =>
    unfold splitC
    cases hs : splitC c t with
    | nil => exact absurd hs (splitC_ne c t)
    | cons h r =>
      rw [hs] at ih
      split
      · rename_i e; subst e
        rw [join_cons1, ih]; rfl
      · unfold consHead
        cases r with
        | nil => rw [Lib.join_one] at ih ⊢; rw [ih]
        | cons y z => rw [join_cons1] at ih ⊢; rw [List.cons_append, ih]
theorem split_join (c : UInt8) : ∀ (xs : List (List UInt8)), xs ≠ [] → (∀ x ∈ xs, ∀ b ∈ x, b ≠ c) → splitC c (Lib.join xs [c]) = xs
  | [], h, _ => absurd rfl h
  | [x], _, h => by rw [Lib.join_one, splitC_whole c x (h x (by simp))]
  | x :: y :: r, _, h => by rw [join_cons1, splitC_append c x _ (h x (by simp)), split_join c (y :: r) (by simp) (fun z hz => h z (by simp [List.mem_cons.1 hz]))]
theorem join_len (c : UInt8) (m : Nat) : ∀ (xs : List (List UInt8)), (∀ x ∈ xs, x.length ≤ m) → (Lib.join xs [c]).length ≤ (m + 1) * xs.length
  | [], _ => by simp [Lib.join_nil]
  | [x], h => by rw [Lib.join_one]; have := h x (by simp); simp; omega
  | x :: y :: r, h => by
    rw [join_cons1, List.length_append, List.length_cons]
    have h1 := h x (by simp)
    have h2 := join_len c m (y :: r) (fun z hz => h z (by simp [List.mem_cons.1 hz]))
    have e : (m + 1) * (x :: y :: r).length = (m + 1) * (y :: r).length + (m + 1) := by rw [List.length_cons, Nat.mul_succ]
    omega
theorem word_len (x : S37) (h : okO x) : (wordO x).length ≤ 14 := by
  unfold wordO
  rw [List.length_cons]
  have := digitsN_len 12 x.f0.toNat (by have := h.2.2; omega)
  omega
theorem word_noc (x : S37) (h : okO x) : ∀ b ∈ wordO x, b ≠ 32 := by
  intro b hb e
  unfold wordO at hb
  rcases List.mem_cons.1 hb with r | r
  · rw [e] at r
    have h1 := h.1
    have h2 := h.2.1
    revert r
    rcases (show x.f1 = 1 ∨ x.f1 = 2 ∨ x.f1 = 3 ∨ x.f1 = 4 by omega) with g | g | g | g <;> rw [g] <;> decide
  · have := digitsN_dig x.f0.toNat b r
    rw [e] at this
    revert this; unfold isDig; decide
def wordBy (x : S37) : ByteArray := ((⟨#[99, 111, 116, 101]⟩ : ByteArray).extract ((wrap64 (x.f1 - 1)) : Int).toNat (x.f1 : Int).toNat) ++ digitsB x.f0
theorem wordBy_list (x : S37) (h : okO x) : (wordBy x).data.toList = wordO x := by
  unfold wordBy wordO
  rw [w64 (by have := h.1; omega) (by have := h.2.1; omega)]
  have e : ((⟨#[99, 111, 116, 101]⟩ : ByteArray).extract (x.f1 - 1).toNat x.f1.toNat).data.toList = [letK x.f1] := by
    have h1 := h.1
    have h2 := h.2.1
    rcases (show x.f1 = 1 ∨ x.f1 = 2 ∨ x.f1 = 3 ∨ x.f1 = 4 by omega) with g | g | g | g <;> rw [g] <;> decide
  rw [ByteArray.data_append, Array.toList_append, e, digitsB_list]
  rfl
theorem print_loop (l : List S37) (hok : ∀ x ∈ l, okO x) (hl : l.length ≤ 32) (d : Nat) : ∀ (k i : Nat), i + d = l.length → d < k →
    phase_Print.l0 k ((l.take i).map wordBy) l (l.length : Int) (i : Int) = some (⟨(printO l).toArray⟩, 0) := by
  induction d with
  | zero =>
    intro k i hi hk
    obtain ⟨k, rfl⟩ : ∃ m, k = m + 1 := ⟨k - 1, by omega⟩
    simp only [phase_Print.l0]
    rw [if_neg (by omega), List.take_of_length_le (by omega)]
    have e : (l.map wordBy).map (·.data.toList) = l.map wordO := by
      rw [List.map_map]
      exact List.map_congr_left fun x hx => wordBy_list x (hok x hx)
    have hj := join_len 32 14 (l.map wordO) (fun w hw => by obtain ⟨x, hx, rfl⟩ := List.mem_map.1 hw; exact word_len x (hok x hx))
    rw [List.length_map] at hj
    unfold strings_Join.f joinB
    rw [e]
    rw [if_pos ⟨by rw [List.length_map]; omega, by show (Lib.join (l.map wordO) [32]).length ≤ _; omega⟩]
    rfl
  | succ d ih =>
    intro k i hi hk
    obtain ⟨k, rfl⟩ : ∃ m, k = m + 1 := ⟨k - 1, by omega⟩
    have hlt : i < l.length := by omega
    have hx := hok _ (List.getElem_mem hlt)
    have h1 := hx.1
    have h2 := hx.2.1
    have h3 := hx.2.2
    have hit : strconv_Itoa.f l[i].f0 = some (digitsB l[i].f0) := by unfold strconv_Itoa.f; rw [if_pos (by omega)]
    have hws := congrArg List.length (wordBy_list l[i] hx)
    have hwl := word_len l[i] hx
    have hsz : ((⟨#[99, 111, 116, 101]⟩ : ByteArray).extract ((wrap64 (l[i].f1 - 1)) : Int).toNat (l[i].f1 : Int).toNat).size + (digitsB l[i].f0).size ≤ 14 := by
      rw [← ByteArray.size_append]
      show (wordBy l[i]).data.toList.length ≤ 14
      omega
    have hw := w64 (x := l[i].f1 - 1) (by omega) (by omega)
    simp only [phase_Print.l0]
    rw [rdP_at l i hlt, if_pos (by omega), if_pos (by omega), if_pos (by omega), hit]
    simp only [Option.bind_some]
    rw [if_pos (by omega), if_pos (by omega), if_pos (by omega), if_pos (by omega), if_pos (by simp; omega), w64 (x := (i : Int) + 1) (by omega) (by omega), show ((i : Int) + 1) = ((i + 1 : Nat) : Int) by omega]
    have e : (l.take i).map wordBy ++ [wordBy l[i]] = (l.take (i + 1)).map wordBy := by rw [List.take_succ_eq_append_getElem hlt, List.map_append]; rfl
    show phase_Print.l0 k ((l.take i).map wordBy ++ [wordBy l[i]]) l (l.length : Int) ((i + 1 : Nat) : Int) = _
    rw [e]
    exact ih k (i + 1) (by omega) (by omega)
theorem print_day (l : List S37) (hd : dayL (l.map prP) = true) (k : Nat) (hk : 32 < k) : phase_Print.f k l = some (⟨(printO l).toArray⟩, 0) := by
  have h := ((dayL_iff _).1 hd).1
  rw [List.length_map] at h
  unfold phase_Print.f phase_Check.f
  rw [if_pos hd]
  simp only [Option.bind_some, if_true]
  exact print_loop l (day_ok hd) h.2.1 l.length k 0 (by omega) (by omega)
theorem print_no (l : List S37) (hd : ¬ dayL (l.map prP) = true) (k : Nat) : phase_Print.f k l = some (⟨#[]⟩, 370) := by
  unfold phase_Print.f phase_Check.f
  rw [if_neg hd]
  simp only [Option.bind_some]
  rw [if_neg (by decide)]
theorem read_is (s : ByteArray) (hs : s.size ≤ 1000) (k : Nat) (hk : 1001 < k) : ∃ r : List ByteArray, r.map (·.data.toList) = splitC 32 s.data.toList ∧ phase_Read.f k s = some (if r.all goodW = true then chkO (r.map toPh) else ([], 112)) := by
  obtain ⟨r, h1, h2⟩ := split_spec s 32 (by omega)
  refine ⟨r, h2, ?_⟩
  have hj := join_split 32 s.data.toList
  rw [← h2] at hj
  have hlen : ∀ (xs : List (List UInt8)), xs.length ≤ (Lib.join xs [32]).length + 1 ∧ ∀ x ∈ xs, x.length ≤ (Lib.join xs [32]).length := by
    intro xs
    induction xs with
    | nil => simp
    | cons x t ih =>
      cases t with
      | nil => rw [Lib.join_one]; simp
      | cons y z =>
        rw [join_cons1, List.length_append, List.length_cons]
        refine ⟨by have := ih.1; simp only [List.length_cons] at *; omega, fun w hw => ?_⟩
        rcases List.mem_cons.1 hw with rfl | hw
        · have e32 : (32 :: Lib.join (y :: z) [32]).length = (Lib.join (y :: z) [32]).length + 1 := rfl
          omega
        · have e32 : (32 :: Lib.join (y :: z) [32]).length = (Lib.join (y :: z) [32]).length + 1 := rfl
          have := ih.2 w hw; omega
  have hl := hlen (r.map (·.data.toList))
  rw [hj, List.length_map] at hl
  have hz : s.data.toList.length = s.size := rfl
  unfold phase_Read.f
  rw [h1]
  simp only [Option.bind_some]
  have := read_loop r (fun w hw => by
    have := hl.2 w.data.toList (List.mem_map.2 ⟨w, hw, rfl⟩)
    have e : w.data.toList.length = w.size := rfl
    omega) (by omega) r.length k 0 [] (by omega) rfl (by omega)
  rw [List.drop_zero, List.nil_append] at this
  exact this
theorem print_size (l : List S37) (hd : dayL (l.map prP) = true) : (printO l).length ≤ 480 := by
  have h := ((dayL_iff _).1 hd).1
  rw [List.length_map] at h
  have hj := join_len 32 14 (l.map wordO) (fun w hw => by obtain ⟨x, hx, rfl⟩ := List.mem_map.1 hw; exact word_len x (day_ok hd x hx))
  rw [List.length_map] at hj
  unfold printO
  omega
theorem read_day (l : List S37) (hd : dayL (l.map prP) = true) (k : Nat) (hk : 1001 < k) : phase_Read.f k ⟨(printO l).toArray⟩ = some (l, 0) := by
  have hok := day_ok hd
  have hps := print_size l hd
  obtain ⟨r, h1, h2⟩ := read_is ⟨(printO l).toArray⟩ (by show (printO l).toArray.size ≤ 1000; simp; omega) k hk
  have h := ((dayL_iff _).1 hd).1
  rw [List.length_map] at h
  have hsp : splitC 32 (printO l) = l.map wordO := split_join 32 _ (by intro e; have := congrArg List.length e; simp at this; subst this; simp at h) (fun w hw => by obtain ⟨x, hx, rfl⟩ := List.mem_map.1 hw; exact word_noc x (hok x hx))
  rw [show (⟨(printO l).toArray⟩ : ByteArray).data.toList = printO l by simp, hsp] at h1
  rw [h2]
  have hgt : ∀ (r : List ByteArray) (l : List S37), (∀ x ∈ l, okO x) → r.map (·.data.toList) = l.map wordO → r.all goodW = true ∧ r.map toPh = l := by
    intro r
    induction r with
    | nil => intro l _ e; cases l with
      | nil => exact ⟨rfl, rfl⟩
      | cons x t => simp at e
    | cons w t ih =>
      intro l hok e
      cases l with
      | nil => simp at e
      | cons x u =>
        simp only [List.map_cons, List.cons.injEq] at e
        have hi := ih u (fun y hy => hok y (by simp [hy])) e.2
        have hx := hok x (by simp)
        have hw := word_good x hx
        rw [← e.1] at hw
        refine ⟨?_, ?_⟩
        · rw [List.all_cons, hi.1]; unfold goodW; rw [hw]; rfl
        · rw [List.map_cons, hi.2]
          unfold toPh
          rw [hw]
          have h1 := hx.1
          have h3 := hx.2.2.1
          congr 1
          show (⟨((x.f0.toNat : Nat) : Int), ((x.f1.toNat : Nat) : Int)⟩ : S37) = x
          rw [Int.toNat_of_nonneg h3, Int.toNat_of_nonneg (by omega)]
  obtain ⟨g1, g2⟩ := hgt r l hok h1
  rw [if_pos g1, g2]
  unfold chkO
  rw [if_pos hd]
theorem read_back (s : ByteArray) (hs : s.size ≤ 1000) (k : Nat) (hk : 1001 < k) : (∃ e, phase_Read.f k s = some ([], e) ∧ e ≠ 0) ∨ ∃ l, phase_Read.f k s = some (l, 0) ∧ dayL (l.map prP) = true ∧ printO l = s.data.toList := by
  obtain ⟨r, h1, h2⟩ := read_is s hs k hk
  rw [h2]
  by_cases c : r.all goodW = true
  · rw [if_pos c]
    unfold chkO
    by_cases d : dayL ((r.map toPh).map prP) = true
    · right
      rw [if_pos d]
      refine ⟨_, rfl, d, ?_⟩
      unfold printO
      rw [List.map_map, ← join_split 32 s.data.toList, ← h1]
      congr 1
      apply List.map_congr_left
      intro w hw
      have := List.all_eq_true.1 c w hw
      exact word_back w.data.toList this
    · left; rw [if_neg d]; exact ⟨370, rfl, by decide⟩
  · left; rw [if_neg c]; exact ⟨112, rfl, by decide⟩
theorem shift_none (l : List S37) (now : Int) : l.map (shP now 0) = l := by
  conv => rhs; rw [← List.map_id l]
  apply List.map_congr_left
  intro x _
  unfold shP
  split
  · rw [Int.add_zero]; rfl
  · rfl
theorem PhaseBack : Go.Proofs.YtcjilccldfkhmaaDoor.phaseBack.P := by
  intro s l1 a2 hs hok hw
  refine ⟨2003, ?_⟩
  unfold spigotlaw37_PhaseBack.f spigotlaw37_awake.f
  simp only [Option.bind_some, if_true]
  by_cases c1 : (s.size : Int) > 1000
  · rw [if_pos c1]; simp [spigotlaw37_PhaseBack.j0]
  rw [if_neg c1]
  by_cases c2 : (l1.length : Int) > 100
  · rw [decide_eq_true c2]; simp [spigotlaw37_PhaseBack.j0]
  rw [decide_eq_false c2]
  have hpl : spigotlaw37_plain.f l1 = some (l1.map plQ) := by unfold spigotlaw37_plain.f; rw [if_pos (by omega)]
  have hsm : spigotref37_Same.f (l1.map plQ) (l1.map plQ) = some true := by
    unfold spigotref37_Same.f; rw [if_pos (by rw [List.length_map]; unfold big; omega)]; simp
  have h2 : spigotlaw37_PhaseBack.j2 2001 l1 a2 false = some true := by
    simp only [spigotlaw37_PhaseBack.j2, Bool.false_eq_true, if_false]
    unfold phase_Shift.f
    by_cases d1 : dayL (l1.map prP) = true
    · rw [if_pos d1]
      by_cases d2 : (0 ≤ a2 ∧ a2 ≤ 1099511627776) ∧ 0 ≤ (0 : Int) ∧ (0 : Int) ≤ 1099511627776
      · rw [if_pos d2]
        by_cases d3 : fitsP a2 0 (l1.drop (begunL a2 (l1.map prP))) = true
        · rw [if_pos d3, shift_none]
          simp only [Option.bind_some, if_true]
          rw [hpl]
          simp only [Option.bind_some]
          rw [hsm]; rfl
        · rw [if_neg d3]; rfl
      · rw [if_neg d2]; rfl
    · rw [if_neg d1]; rfl
  have h1 : spigotlaw37_PhaseBack.j1 2002 l1 a2 = some true := by
    simp only [spigotlaw37_PhaseBack.j1]
    by_cases d1 : dayL (l1.map prP) = true
    · rw [print_day l1 d1 2001 (by decide)]
      simp only [Option.bind_some, if_true]
      rw [read_day l1 d1 2001 (by decide)]
      simp only [Option.bind_some, if_true]
      rw [hpl]
      simp only [Option.bind_some]
      rw [hsm]
      exact h2
    · rw [print_no l1 d1 2001]
      simp only [Option.bind_some]
      rw [if_neg (by decide)]
      simp [ByteArray.toList_eq]
  simp only [spigotlaw37_PhaseBack.j0, Bool.false_eq_true, if_false]
  rcases read_back s (by omega) 2002 (by decide) with ⟨e, he, hne⟩ | ⟨l, hl, hd, hp⟩
  · rw [he]
    simp only [Option.bind_some]
    rw [if_neg hne]
    exact h1
  · rw [hl]
    simp only [Option.bind_some, if_true]
    rw [print_day l hd 2002 (by decide)]
    simp only [Option.bind_some, if_true]
    rw [hp, if_pos (by simp [ByteArray.toList_eq])]
    exact h1

end Go.Proofs.YtcjilccldfkhmaaDoor.Pure
