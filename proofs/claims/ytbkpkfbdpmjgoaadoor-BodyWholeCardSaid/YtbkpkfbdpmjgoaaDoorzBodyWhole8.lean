/- The functions that the law reaches, as plain Lean functions, and their contracts: texts merged. -/
import Derived.Laws.StructEq
import Derived.Test.YtbkpkfbdpmjgoaaDoorzBodyWhole2
import Derived.Test.YtbkpkfbdpmjgoaaDoorzBodyWhole0
import Derived.Test.YtbkpkfbdpmjgoaaDoorzBodyWhole1
import Derived.Test.YtbkpkfbdpmjgoaaDoorzBodyWhole3
import Derived.Test.YtbkpkfbdpmjgoaaDoorzBodyWhole4
import Derived.Test.YtbkpkfbdpmjgoaaDoorzBodyWhole5
import Derived.Test.YtbkpkfbdpmjgoaaDoorzBodyWhole6
import Derived.Test.YtbkpkfbdpmjgoaaDoorzBodyWhole7
section
namespace Go.Proofs.YtbkpkfbdpmjgoaaDoor.T
open Go.RowKit Go.Proofs.YtbkpkfbdpmjgoaaDoorW.PrintWords Go.Proofs.YtbkpkfbdpmjgoaaDoorW.PrintLast Go.Proofs.YtbkpkfbdpmjgoaaDoorW.PrintMore
attribute [local go_sem] max2_int min2_int max_two min_two max_three min_three max_four min_four   -- for this text's walks alone
set_option linter.unusedVariables false
set_option linter.unusedSimpArgs false
def nameF : Nat → List ByteArray → List S51
  | _, [] => []
  | j, s :: r => ⟨((100 + j : Nat) : Int), s⟩ :: nameF (j + 1) r
theorem nameF_snoc (s : ByteArray) : ∀ (l : List ByteArray) (j : Nat), nameF j (l ++ [s]) = nameF j l ++ [⟨((100 + (j + l.length) : Nat) : Int), s⟩]
  | [], j => rfl
  | x :: r, j => by
    show (⟨((100 + j : Nat) : Int), x⟩ : S51) :: nameF (j + 1) (r ++ [s]) = _
    rw [nameF_snoc s r (j + 1), List.length_cons, show j + 1 + r.length = j + (r.length + 1) by omega]; rfl
theorem nameF_len : ∀ (l : List ByteArray) (j : Nat), (nameF j l).length = l.length
  | [], _ => rfl
  | x :: r, j => by show (nameF (j + 1) r).length + 1 = _; rw [nameF_len r (j + 1)]; rfl
theorem nameF_mem : ∀ (l : List ByteArray) (j : Nat) (x : S51), x ∈ nameF j l → ∃ i, ∃ h : i < l.length, x = ⟨((100 + (j + i) : Nat) : Int), l[i]⟩
  | [], _, x, h => by simp [nameF] at h
  | y :: r, j, x, h => by
    rcases List.mem_cons.1 h with rfl | h
    · exact ⟨0, by simp, rfl⟩
    · obtain ⟨i, hi, rfl⟩ := nameF_mem r (j + 1) x h
      exact ⟨i + 1, by simpa using hi, by rw [show 100 + (j + 1 + i) = 100 + (j + (i + 1)) by omega]; rfl⟩
theorem nameF_at : ∀ (l : List ByteArray) (j i : Nat) (h : i < l.length), (⟨((100 + (j + i) : Nat) : Int), l[i]⟩ : S51) ∈ nameF j l
  | [], _, _, h => by simp at h
  | y :: r, j, 0, _ => by show _ ∈ (⟨((100 + j : Nat) : Int), y⟩ : S51) :: _; exact List.mem_cons_self
  | y :: r, j, i + 1, h => by
    refine List.mem_cons_of_mem _ ?_
    have := nameF_at r (j + 1) i (by simpa using h)
    rw [show 100 + (j + 1 + i) = 100 + (j + (i + 1)) by omega] at this
    exact this
def headF (d : ByteArray) : List S51 := [⟨35, ⟨#[120]⟩⟩, ⟨400, d⟩]
def listF (d : ByteArray) (l : List ByteArray) : List S51 := headF d ++ nameF 0 l
def listM (d : ByteArray) (l : List ByteArray) (more : Int) : List S51 := listF d l ++ [⟨more, ⟨#[121]⟩⟩]
theorem nameF_nodup : ∀ (l : List ByteArray) (j : Nat), (tagsOf (nameF j l)).Nodup
  | [], _ => by simp [nameF, tagsOf]
  | x :: r, j => by
    show (((100 + j : Nat) : Int) :: tagsOf (nameF (j + 1) r)).Nodup
    rw [List.nodup_cons]
    refine ⟨fun h => ?_, nameF_nodup r (j + 1)⟩
    obtain ⟨y, hy, e⟩ := List.mem_map.1 h
    obtain ⟨i, hi, rfl⟩ := nameF_mem r (j + 1) y hy
    simp only at e
    omega
theorem listF_nodup (d : ByteArray) (l : List ByteArray) (hl : l.length ≤ 20) : (tagsOf (listF d l)).Nodup := by
  have e : tagsOf (listF d l) = 35 :: 400 :: tagsOf (nameF 0 l) := by unfold listF headF tagsOf; simp
  rw [e, List.nodup_cons, List.nodup_cons]
  have hm : ∀ t, t ∈ tagsOf (nameF 0 l) → 100 ≤ t ∧ t < 120 := fun t ht => by
    obtain ⟨y, hy, rfl⟩ := List.mem_map.1 ht
    obtain ⟨i, hi, rfl⟩ := nameF_mem l 0 y hy
    simp only
    omega
  refine ⟨?_, ?_, nameF_nodup l 0⟩
  · intro h
    rcases List.mem_cons.1 h with h | h
    · exact absurd h (by decide)
    · have := hm _ h; omega
  · intro h; have := hm _ h; omega
theorem listM_nodup (d : ByteArray) (l : List ByteArray) (hl : l.length ≤ 20) (more : Int) (h1 : 500 ≤ more) : (tagsOf (listM d l more)).Nodup := by
  have e : tagsOf (listM d l more) = tagsOf (listF d l) ++ [more] := by unfold listM tagsOf; simp
  rw [e, List.nodup_append]
  refine ⟨listF_nodup d l hl, by simp, fun a ha b hb => ?_⟩
  rw [List.mem_singleton.1 hb]
  rintro rfl
  have e2 : tagsOf (listF d l) = 35 :: 400 :: tagsOf (nameF 0 l) := by unfold listF headF tagsOf; simp
  rw [e2] at ha
  rcases List.mem_cons.1 ha with h | h
  · omega
  · rcases List.mem_cons.1 h with h | h
    · omega
    · obtain ⟨y, hy, rfl⟩ := List.mem_map.1 h
      obtain ⟨i, hi, rfl⟩ := nameF_mem l 0 y hy
      simp only at h1
      omega
theorem valsOf_of (l : List S51) (h : (tagsOf l).Nodup) (x : S51) (hx : x ∈ l) : valsOf l x.f0 = some x.f1 := by
  induction l with
  | nil => simp at hx
  | cons y r ih =>
    have h2 : (y.f0 :: tagsOf r).Nodup := h
    rw [List.nodup_cons] at h2
    unfold valsOf at ih ⊢
    rcases List.mem_cons.1 hx with rfl | hx
    · rw [List.find?_cons_of_pos (p := fun z : S51 => z.f0 == x.f0) (by simp)]; rfl
    · have hne : ¬ (y.f0 == x.f0) = true := by
        intro e
        exact h2.1 (List.mem_map.2 ⟨x, hx, (by simpa using e : y.f0 = x.f0).symm⟩)
      rw [List.find?_cons_of_neg (p := fun z : S51 => z.f0 == x.f0) hne]
      exact ih h2.2 hx
theorem spareL_all (asked : Int → Bool) : ∀ l : List Int, (∀ t ∈ l, asked t = true) → spareL asked l = (0, 0)
  | [], _ => rfl
  | t :: r, h => by rw [spareL_cons, if_pos (h t (by simp)), spareL_all asked r (fun x hx => h x (by simp [hx]))]
theorem spareL_one (asked : Int → Bool) (m : Int) (hm : asked m = false) : ∀ l : List Int, (∀ t ∈ l, asked t = true) → spareL asked (l ++ [m]) = (m, 113)
  | [], _ => by rw [List.nil_append, spareL_cons, if_neg (by rw [hm]; decide)]
  | t :: r, h => by rw [List.cons_append, spareL_cons, if_pos (h t (by simp)), spareL_one asked m hm r (fun x hx => h x (by simp [hx]))]
structure AskedTo (L : List S51) (i : Nat) (F : FormS) : Prop where
  e : F.e = 0
  vals : F.vals = valsOf L
  order : F.order = tagsOf L
  asked : ∀ t, F.asked t = decide (t = 35 ∨ t = 400 ∨ (100 ≤ t ∧ t < 100 + (i : Int)))
def nameOk (s : ByteArray) : Bool := nameL s.data.toList 0
theorem name_ne (s : ByteArray) (h : nameOk s = true) : s ≠ ⟨#[]⟩ := by
  rintro rfl
  unfold nameOk at h
  rw [show (⟨#[]⟩ : ByteArray).data.toList = [] from rfl, nameL_nil] at h
  simp at h
section
variable {L : List S51} {d : ByteArray} {l0 : List ByteArray} {n : Int}
theorem whole_kind (g : Nat) (p : PlS) (W : World) (h : FormIs g p (formOf L) 0 W) :
    Calls Tryd.prog 15 #[.pointer (some ⟨g, 0, none⟩)] W fun e w' => ∃ v, e = .returned (.string v) ∧ FormIs g p ((formOf L).mark 35) 1 w' ∧ Turned (FormB g p) W w' :=
  (form_kind g p _ 0 W h (by decide)).mono fun e w' hh => ⟨_, hh.1, (hh.2.2 rfl).1, (hh.2.2 rfl).2⟩
theorem whole_int (hv : ∀ x s, valsOf L x = some s → s.size ≤ 140737488351232) (h400 : valsOf L 400 = some d) (hd : numP d.data.toList = (n.toNat, 0)) (hn : 0 ≤ n) (g : Nat) (p : PlS) (W : World) (h : FormIs g p ((formOf L).mark 35) 1 W) (ha : p.a < W.heap.size) :
    Calls Tryd.prog 18 #[.pointer (some ⟨g, 0, none⟩), .int .i64 400, .int .i64 0, .int .i64 n] W fun e w' => e = .returned (.int .i64 n) ∧ ∃ F, AskedTo L 0 F ∧ FormIs g p F 2 w' ∧ Turned (FormB g p) W w' := by
  have hk : askL (fun s => takeInt s 0 n) 0 ((formOf L).mark 35) 400 = (n, ((formOf L).mark 35).mark 400) := by
    have htk : takeInt d 0 n = (n, 0) := by
      unfold takeInt
      rw [hd]
      simp only
      rw [if_neg (by rintro ⟨_, h | h⟩ <;> omega), Int.toNat_of_nonneg hn]; rfl
    rw [askL_some (fun s => takeInt s 0 n) 0 _ 400 rfl (s := d) h400]
    show (if (takeInt d 0 n).2 = 0 then ((takeInt d 0 n).1, ((formOf L).mark 35).mark 400) else _) = _
    rw [htk]; rfl
  refine (form_int g p _ 1 W h (by decide) hv 400 0 n (i64ok_of (by decide) (by decide)) ha).mono fun e w' hh => ?_
  rw [hk] at hh
  refine ⟨hh.1, _, ⟨rfl, rfl, rfl, fun t => ?_⟩, hh.2.1, hh.2.2⟩
  show (if t = 400 then true else if t = 35 then true else false) = _
  by_cases c1 : t = 400
  · rw [if_pos c1, decide_eq_true (by omega)]
  · rw [if_neg c1]
    by_cases c2 : t = 35
    · rw [if_pos c2, decide_eq_true (by omega)]
    · rw [if_neg c2, decide_eq_false (by omega)]
theorem whole_name (hv : ∀ x s, valsOf L x = some s → s.size ≤ 140737488351232) (i : Nat) (hi : i < 20) (s : ByteArray) (hs : valsOf L (100 + (i : Int)) = some s) (F : FormS) (hF : AskedTo L i F) (k : Nat) (hk : k < 1000) (g : Nat) (p : PlS) (W : World) (h : FormIs g p F k W) :
    Calls Tryd.prog 17 #[.pointer (some ⟨g, 0, none⟩), .int .i64 (100 + (i : Int))] W fun e w' =>
      (nameOk s = true → e = .returned (.string s) ∧ ∃ F', AskedTo L (i + 1) F' ∧ FormIs g p F' (k + 1) w' ∧ Turned (FormB g p) W w') ∧
      (nameOk s = false → e = .returned (.string ⟨#[]⟩) ∧ ∃ F', F'.e = 43 ∧ F'.tag = 100 + (i : Int) ∧ FormIs g p F' (k + 1) w' ∧ Turned (FormB g p) W w') := by
  refine (form_name g p F k W h (by omega) (by rw [hF.vals]; exact hv) (100 + (i : Int)) (i64ok_of (by omega) (by omega))).mono fun e w' hh => ?_
  have ha := askL_some takeName ⟨#[]⟩ F (100 + (i : Int)) hF.e (s := s) (by rw [hF.vals]; exact hs)
  constructor
  · intro ho
    have ht : takeName s = (s, 0) := by unfold takeName; rw [if_pos (show nameL s.data.toList 0 = true from ho)]
    rw [ha, ht, if_pos rfl] at hh
    refine ⟨hh.1, F.mark (100 + (i : Int)), ⟨hF.e, hF.vals, hF.order, fun t => ?_⟩, hh.2.1, hh.2.2⟩
    show (if t = 100 + (i : Int) then true else F.asked t) = _
    rw [hF.asked]
    by_cases c1 : t = 100 + (i : Int)
    · rw [if_pos c1, decide_eq_true (by omega)]
    · rw [if_neg c1, decide_eq_decide]; omega
  · intro ho
    have ht : takeName s = (⟨#[]⟩, 43) := by unfold takeName; rw [if_neg (by rw [show nameL s.data.toList 0 = false from ho]; decide)]
    rw [ha, ht, if_neg (by decide)] at hh
    exact ⟨hh.1, _, rfl, rfl, hh.2.1, hh.2.2⟩
end
structure WholeIs (L : List S51) (w2 : World) (g : Nat) (p : PlS) (i : Nat) (wr : World) : Prop where
  ex : ∃ F k, AskedTo L i F ∧ FormIs g p F k wr ∧ k ≤ 2 + i
  low : Below w2.heap.size w2 wr
theorem whole_head (W : World) (w0 : World) (h : Below w0.heap.size w0 W) (d : ByteArray) :
    Kd.R k51 51 (W.alloc (.cells #[.int .i64 35, .string ⟨#[120]⟩, .int .i64 400, .string d] 51)) w0.heap.size (fun _ => True) (.slice (some ⟨W.heap.size, 0, none⟩) 2 2) (headF d) := by
  have hr : Reps (Kd.M k51 (W.alloc (.cells #[.int .i64 35, .string ⟨#[120]⟩, .int .i64 400, .string d] 51)) w0.heap.size (fun k => True ∧ some k ≠ Value.ownBlock (.slice (some ⟨W.heap.size, 0, none⟩) 2 2))) 2 (headF d) [.int .i64 35, .string ⟨#[120]⟩, .int .i64 400, .string d] :=
    ⟨rfl, fun j p hj => by
      match j, hj with
      | 0, hj => obtain rfl : (⟨35, ⟨#[120]⟩⟩ : S51) = p := Option.some.inj hj; exact k51_mkM _ _ _ ⟨35, ⟨#[120]⟩⟩
      | 1, hj => obtain rfl : (⟨400, d⟩ : S51) = p := Option.some.inj hj; exact k51_mkM _ _ _ ⟨400, d⟩
      | n + 2, hj => simp [headF] at hj⟩
  exact ⟨fun _ _ => trivial, OwnRow.lit (e := 51) W w0.heap.size hr h.size (by show 2 ≤ _; decide)⟩
def TrueW (w : World) (e : Ending) (w' : World) : Prop := e = .returned (.bool true) ∧ Below w.heap.size w w'
theorem allFormsL_err (l : List (Int × List UInt8)) (h : (allFormsL l).2 ≠ 0) : (allFormsL l).1 = [] := by
  unfold allFormsL at h ⊢
  by_cases c : 64 < l.length
  · rw [if_pos c]
  · rw [if_neg c] at h ⊢
    exact formsL_err l h
structure WholeL (L : List S51) (d : ByteArray) (l0 : List ByteArray) (u : Int × Int) : Prop where
  nodup : (tagsOf L).Nodup
  len : 0 < L.length
  h35 : (rd_T51 L 0).f0 = 35
  pos : ∀ x ∈ L, 0 ≤ x.f0
  at400 : valsOf L 400 = some d
  names : ∀ i (h : i < l0.length), valsOf L (100 + (i : Int)) = some l0[i]
  small : smallF L = true
  last : ∀ F, AskedTo L l0.length F → spareL F.asked F.order = u
theorem listF_is (d : ByteArray) (l0 : List ByteArray) (hl : l0.length ≤ 20) (hd : d.size ≤ 9223372036854775807) (hs : ∀ x ∈ l0, x.size ≤ 9223372036854775807) : WholeL (listF d l0) d l0 (0, 0) := by
  have hn := listF_nodup d l0 hl
  have hm : ∀ i (h : i < l0.length), (⟨100 + (i : Int), l0[i]⟩ : S51) ∈ listF d l0 := fun i h => by
    have := nameF_at l0 0 i h
    rw [Nat.zero_add] at this
    exact List.mem_append_right _ this
  refine ⟨hn, by simp [listF, headF], rfl, fun x hx => ?_, valsOf_of _ hn ⟨400, d⟩ (by simp [listF, headF]), fun i h => valsOf_of _ hn _ (hm i h), ?_, fun F hF => ?_⟩
  · rcases List.mem_append.1 hx with h | h
    · simp only [headF, List.mem_cons, List.not_mem_nil, or_false] at h
      rcases h with rfl | rfl
      · decide
      · show (0 : Int) ≤ 400; decide
    · obtain ⟨i, hi, rfl⟩ := nameF_mem l0 0 x h
      show (0 : Int) ≤ ((100 + (0 + i) : Nat) : Int); omega
  · unfold smallF
    rw [List.all_eq_true]
    intro x hx
    rw [decide_eq_true_eq]
    rcases List.mem_append.1 hx with h | h
    · simp only [headF, List.mem_cons, List.not_mem_nil, or_false] at h
      rcases h with rfl | rfl
      · decide
      · exact hd
    · obtain ⟨i, hi, rfl⟩ := nameF_mem l0 0 x h
      exact hs _ (List.getElem_mem hi)
  · rw [hF.order]
    refine spareL_all _ _ fun t ht => ?_
    rw [hF.asked, decide_eq_true_eq]
    have e2 : tagsOf (listF d l0) = 35 :: 400 :: tagsOf (nameF 0 l0) := by unfold listF headF tagsOf; simp
    rw [e2] at ht
    rcases List.mem_cons.1 ht with h | h
    · exact .inl h
    · rcases List.mem_cons.1 h with h | h
      · exact .inr (.inl h)
      · obtain ⟨y, hy, rfl⟩ := List.mem_map.1 h
        obtain ⟨i, hi, rfl⟩ := nameF_mem l0 0 y hy
        refine .inr (.inr ?_)
        show (100 : Int) ≤ ((100 + (0 + i) : Nat) : Int) ∧ ((100 + (0 + i) : Nat) : Int) < 100 + (l0.length : Int)
        omega
theorem listM_is (d : ByteArray) (l0 : List ByteArray) (more : Int) (h5 : 500 ≤ more) (hl : l0.length ≤ 20) (hd : d.size ≤ 9223372036854775807) (hs : ∀ x ∈ l0, x.size ≤ 9223372036854775807) : WholeL (listM d l0 more) d l0 (more, 113) := by
  have hn := listM_nodup d l0 hl more h5
  have hF := listF_is d l0 hl hd hs
  have hin : ∀ x ∈ listF d l0, x ∈ listM d l0 more := fun x hx => List.mem_append_left _ hx
  have hm : ∀ i (h : i < l0.length), (⟨100 + (i : Int), l0[i]⟩ : S51) ∈ listM d l0 more := fun i h => by
    have := nameF_at l0 0 i h
    rw [Nat.zero_add] at this
    exact hin _ (List.mem_append_right _ this)
  refine ⟨hn, by simp [listM, listF, headF], rfl, fun x hx => ?_, valsOf_of _ hn ⟨400, d⟩ (hin _ (by simp [listF, headF])), fun i h => valsOf_of _ hn _ (hm i h), ?_, fun F hA => ?_⟩
  · rcases List.mem_append.1 hx with h | h
    · exact hF.pos x h
    · rw [List.mem_singleton.1 h]; show (0 : Int) ≤ more; omega
  · have h1 := hF.small
    show smallF (listF d l0 ++ [⟨more, ⟨#[121]⟩⟩]) = true
    unfold smallF at h1 ⊢
    rw [List.all_append, h1]
    rfl
  · rw [hA.order]
    have e : tagsOf (listM d l0 more) = tagsOf (listF d l0) ++ [more] := by unfold listM tagsOf; simp
    rw [e]
    refine spareL_one _ _ (by rw [hA.asked, decide_eq_false (by omega)]) _ fun t ht => ?_
    rw [hA.asked, decide_eq_true_eq]
    have e2 : tagsOf (listF d l0) = 35 :: 400 :: tagsOf (nameF 0 l0) := by unfold listF headF tagsOf; simp
    rw [e2] at ht
    rcases List.mem_cons.1 ht with h | h
    · exact .inl h
    · rcases List.mem_cons.1 h with h | h
      · exact .inr (.inl h)
      · obtain ⟨y, hy, rfl⟩ := List.mem_map.1 h
        obtain ⟨i, hi, rfl⟩ := nameF_mem l0 0 y hy
        refine .inr (.inr ?_)
        show (100 : Int) ≤ ((100 + (0 + i) : Nat) : Int) ∧ ((100 + (0 + i) : Nat) : Int) < 100 + (l0.length : Int)
        omega
theorem noP_digs_w (ds : List UInt8) : ∀ (m : Nat), (∀ x ∈ ds, isDig x) → valFrom m ds ≤ 9223372036854775807 → noP ds m = (valFrom m ds, 0) := by
  induction ds with
  | nil => intro m _ _; rfl
  | cons b t ih =>
    intro m hd hv
    rw [valFrom_cons] at hv ⊢
    have hge := valFrom_ge t (10 * m + (b.toNat - 48))
    rw [noP_go b t m (hd b (by simp)) (by omega)]
    exact ih _ (fun x hx => hd x (by simp [hx])) hv
theorem numP_digits_w (n : Nat) (h : n ≤ 9223372036854775807) : numP (digitsN n) = (n, 0) := by
  have hne := digitsN_ne n
  have hv : valFrom 0 (digitsN n) = n := by rw [valFrom_zero, valOf_digitsN]
  unfold numP
  rw [if_neg (by
    rintro (g | ⟨g1, g2⟩)
    · exact hne g
    · by_cases c : n < 10
      · rw [digitsN_small c] at g2; simp at g2
      · match hd : digitsN n with
        | [] => exact hne hd
        | b :: t =>
          rw [hd] at g1
          have := digitsN_head n (by omega) b t hd
          simp at g1
          exact this (by rw [g1]; rfl))]
  have := noP_digs_w (digitsN n) 0 (digitsN_dig n) (by omega)
  rw [hv] at this
  exact this
theorem kk_lt {i kk : Nat} (h : i < 20) (h2 : kk ≤ 2 + i) : kk < 1000 := by omega
theorem kk_le {i kk : Nat} (h2 : kk ≤ 2 + i) : kk + 1 ≤ 2 + (i + 1) := by omega
theorem formB_low {g : Nat} {p : PlS} {B : Nat} (h1 : B ≤ g) (h2 : B ≤ p.a) (h3 : B ≤ p.v) : ∀ k, FormB g p k → B ≤ k := fun k hk => by rcases hk with hk | hk <;> omega
theorem info_field : (Tryd.prog.info? 51).map (fun i => (i.zero, i.size, i.bytes)) = some (some (.agg #[.int .i64 0, .string ⟨#[]⟩]), 2, 24) := by kernel_rfl
set_option maxRecDepth 100000 in
set_option maxHeartbeats 16000000 in
theorem Whole_walk (A0 : Option Addr) (c0 : Nat) (l0 : List ByteArray) (n more : Int) (w : World) (hT_ : Aside0 (Tabs_ w)) (hr0 : Kd.C Kd.string w A0 l0.length l0) (hc0 : l0.length ≤ c0) (hl : l0.length ≤ 20) (hn : 0 ≤ n ∧ n ≤ 9223372036854775807) (hm : 500 ≤ more ∧ more ≤ 999) (hs : ∀ x ∈ l0, x.size ≤ 9223372036854775807) :
    Calls Tryd.prog 6 #[.slice A0 l0.length c0, .int .i64 n, .int .i64 more] w (TrueW w) := by
  have HAw : Aside0 (∀ W, Calls Tryd.prog 7 #[] W fun e w' => e = .returned (.bool true) ∧ Below W.heap.size W w') := ⟨fun W => awake_walk W⟩
  have hdg : spigotref08_Digits.f n = some (digitsB n) := by unfold spigotref08_Digits.f; rw [if_pos hn]
  have HDg : Aside0 (∀ W, Calls Tryd.prog 13 #[.int .i64 n] W fun e w' => e = .returned (.string (digitsB n)) ∧ Below W.heap.size W w') := ⟨fun W => spigotref08_Digits.calls n _ W hdg⟩
  have hsz : (digitsB n).size ≤ 19 := by rw [digitsB_size]; exact digitsN_len 18 n.toNat (by omega)
  have hnp : numP (digitsB n).data.toList = (n.toNat, 0) := by rw [digitsB_list]; exact numP_digits_w _ (by omega)
  clear hdg
  generalize digitsB n = d at *
  have HLF := Aside0.mk (listF_is d l0 hl (by omega) hs)
  have HLM := Aside0.mk (listM_is d l0 more hm.1 hl (by omega) hs)
  have HC0 := Aside0.mk hr0
  have t1 : decide ((20 : Int) < (l0.length : Int)) = false := by rw [decide_eq_false_iff_not]; omega
  have t1' : decide (20 < l0.length) = false := by rw [decide_eq_false_iff_not]; omega
  have t2 : decide (n < 0) = false := by rw [decide_eq_false_iff_not]; omega
  have t3 : decide (more < 500) = false := by rw [decide_eq_false_iff_not]; omega
  have t4 : decide ((999 : Int) < more) = false := by rw [decide_eq_false_iff_not]; omega
  have HLn : Aside0 ((listF d l0).length ≤ 1000 ∧ (listM d l0 more).length ≤ 1000) := ⟨by have h1 : (listF d l0).length = 2 + l0.length := (by unfold listF; rw [List.length_append, nameF_len]; rfl); have h2 : (listM d l0 more).length = (listF d l0).length + 1 := (by unfold listM; rw [List.length_append]; rfl); omega⟩
  clear hr0 hs
  go_enter Tryd.func6, Tryd.ntmps6
  go_wp2_with (first
    | (go_at_call 7; ((with_reducible refine (HAw.out _).mono ?_)); rintro e w1 ⟨rfl, hb1⟩; have HB1 := Aside0.mk hb1; clear hb1 HAw)
    | (go_at_call 13; ((with_reducible refine (HDg.out _).mono ?_)); rintro e w2 ⟨rfl, hb2⟩; have HB2 := Aside0.mk (HB1.out.trans (hb2.mono HB1.out.size)); clear hb2 HB1))
  have HW0 := Aside0.mk (whole_head w2 w HB2.out d)
  have HB3 : Aside0 (Below w.heap.size w (w2.alloc (.cells #[.int .i64 35, .string ⟨#[120]⟩, .int .i64 400, .string d] 51))) := ⟨HB2.out.alloc HB2.out.size _⟩
  go_loopw [7, 47] (fun v7 v47 wr => ∃ i : Nat, v47 = .int .i64 (i : Int) ∧ i ≤ l0.length ∧ Aside0 (Kd.R k51 51 wr w.heap.size (fun _ => True) v7 (headF d ++ nameF 0 (l0.take i))) ∧ Aside0 (Below w.heap.size w wr)) (fun _ v47 _ => l0.length - (intOf v47).toNat)
  case atStart => exact ⟨0, rfl, Nat.zero_le _, ⟨by rw [List.take_zero]; show Kd.R _ _ _ _ _ _ (headF d ++ []); rw [List.append_nil]; exact HW0.out⟩, HB3⟩
  case round =>
    clear HW0 HB3 HB2
    obtain ⟨i, rfl, hi, HR, HB⟩ := hrel
    obtain ⟨A7, c7, rfl, hc7, -⟩ := Kd.R_reads HR.out
    by_cases hlt : i < l0.length
    · have k1 : decide ((i : Int) < (l0.length : Int)) = true := by rw [decide_eq_true_eq]; omega
      have k2 : (0 : Int) ≤ (i : Int) ∧ (i : Int) < (l0.length : Int) := by omega
      have hti : ((i : Int)).toNat = i := Int.toNat_natCast i
      obtain ⟨ad, rfl, q0⟩ := Kd.at_string (Kd.C_below HC0.out HB.out) (i : Int) (by omega) (by omega)
      rw [show rdOf ByteArray.empty l0 (i : Int) = l0[i] by simp [rdOf, hlt], hti] at q0
      have hlen : (headF d ++ nameF 0 (l0.take i)).length = 2 + i := by rw [List.length_append, nameF_len, List.length_take]; show 2 + min i l0.length = _; omega
      have htk : headF d ++ nameF 0 (l0.take (i + 1)) = (headF d ++ nameF 0 (l0.take i)) ++ [⟨100 + (i : Int), l0[i]⟩] := by
        rw [List.take_succ_eq_append_getElem hlt, nameF_snoc, List.length_take, show 100 + (0 + min i l0.length) = 100 + i by omega, List.append_assoc]
        rfl
      generalize l0[i] = s at *
      have w100 : wrap64 (100 + (i : Int)) = 100 + (i : Int) := w64 (by omega) (by omega)
      go_wp2_with (at_builtin; refine Kd.R_append k51 (w0 := w) (W := wr) w.heap.size rfl (.tmp 52) (.tmp 57) 52 51 (.agg #[.int .i64 0, .string ⟨#[]⟩]) 24 rfl Tryd.underlying52 info_field rfl (by decide) (by decide) (.slice A7 (headF d ++ nameF 0 (l0.take i)).length c7) (headF d ++ nameF 0 (l0.take i)) ⟨100 + (i : Int), s⟩ [.int .i64 (100 + (i : Int)), .string s] (fun _ => True) (fun _ => False) (by rfl) (by rfl) (k51_mkM _ _ _ ⟨100 + (i : Int), s⟩) (fun _ h => h.elim) (fun _ _ => trivial) HR.out HB.out HB.out.size (by rw [hlen]; omega) ?_; intro v8 w8 hR8 hb8 hg8 hat8; rw [← htk] at hR8; have HR8 := Aside0.mk hR8; have HB8 := Aside0.mk hb8; clear hR8 hb8 hg8 hat8)
      refine ⟨⟨i + 1, by rw [show ((i + 1 : Nat) : Int) = (i : Int) + 1 by omega], by omega, HR8, HB8⟩, ?_⟩
      show l0.length - ((i : Int) + 1).toNat < l0.length - ((i : Int)).toNat
      omega
    · have k1 : decide ((i : Int) < (l0.length : Int)) = false := by rw [decide_eq_false_iff_not]; omega
      have hie : i = l0.length := by omega
      subst hie
      have HRF : Aside0 (Kd.R k51 51 wr w.heap.size (fun _ => True) (.slice A7 (headF d ++ nameF 0 (l0.take l0.length)).length c7) (listF d l0)) := ⟨by have h := HR.out; rw [List.take_length] at h ⊢; exact h⟩
      clear HR
      generalize (headF d ++ nameF 0 (l0.take l0.length)).length = m7 at *
      go_wp2
      have HLB : Aside0 (∀ W, Below W.heap.size W W) := ⟨fun W => Below.refl _ _⟩
      go_loopw [7, 60] (fun v7 v60 wr => ∃ k : Nat, v60 = .int .i64 (k : Int) ∧ k ≤ 2 ∧ Aside0 (k ≤ 1 → Kd.R k51 51 wr w.heap.size (fun _ => True) v7 (listF d l0)) ∧ Aside0 (Below w.heap.size w wr)) (fun _ v60 _ => 2 - (intOf v60).toNat)
      case atStart => exact ⟨0, rfl, by omega, ⟨fun _ => HRF.out⟩, HB⟩
      case round =>
      clear HRF HB HDg
      obtain ⟨k, rfl, hk2, HR, HB⟩ := hrel
      rcases (show k = 2 ∨ k = 0 ∨ k = 1 by omega) with rfl | rfl | rfl
      · go_wp2
        go_ret
        exact ⟨rfl, HB.out⟩
      ·
        have hk1 : ((0 : Nat) : Int) = 0 := rfl
        have HRL := Aside0.mk (HR.out (by decide))
        have HBL := HB
        clear HR HB
        obtain ⟨A7, c7, rfl, hc7, -⟩ := Kd.R_reads HRL.out
        have HFm : Aside0 (∀ W, Aside0 (Tabs_ W) → Kd.R k51 51 W w.heap.size (fun _ => True) (.slice A7 (listF d l0).length c7) (listF d l0) → Calls Tryd.prog 20 #[.slice A7 (listF d l0).length c7] W fun e w' => e = .returned (.tuple #[.string ⟨(allFormsL ((listF d l0).map pairF)).1.toArray⟩, .int .i64 ((allFormsL ((listF d l0).map pairF)).2 : Int)]) ∧ Below W.heap.size W w') := ⟨fun W hT hR => by
          obtain ⟨e1, e2, e3⟩ := Kd.R_reads' hR
          exact tag_Forms.calls A7 c7 (listF d l0) _ _ W hT e3 (by omega) (by unfold tag_Forms.f; rw [if_pos HLF.out.small])⟩
        clear hc7
        by_cases ce : (allFormsL ((listF d l0).map pairF)).2 = 0
        · have hrd := readB_formed (listF d l0) HLF.out.nodup HLF.out.len HLF.out.h35 HLF.out.pos ce
          have hrs := readB_sizes _ _ _ hrd
          have hvs : ∀ x s, valsOf (listF d l0) x = some s → s.size ≤ 140737488351232 := fun x s hx => by have := hrs.1 x s hx; omega
          have hbs := allFormsL_len ((listF d l0).map pairF)
          have HRd : Aside0 (∀ W, Calls Tryd.prog 21 #[.string ⟨(allFormsL ((listF d l0).map pairF)).1.toArray⟩] W (ReadIs (some (formOf (listF d l0)), 0) W)) := ⟨fun W => by rw [← hrd]; exact read_walk _ W (by show (allFormsL ((listF d l0).map pairF)).1.toArray.size ≤ _; rw [List.size_toArray]; omega)⟩
          have HKd : Aside0 (∀ g p W, FormIs g p (formOf (listF d l0)) 0 W → _) := ⟨fun g p W h => whole_kind (L := (listF d l0)) g p W h⟩
          have HIn : Aside0 (∀ g p W, FormIs g p ((formOf (listF d l0)).mark 35) 1 W → p.a < W.heap.size → _) := ⟨fun g p W h ha => whole_int (n := n) hvs HLF.out.at400 hnp hn.1 g p W h ha⟩
          have te : ((((allFormsL ((listF d l0).map pairF)).2 : Nat) : Int) != 0) = false := by rw [ce]; rfl
          clear hrd hbs
          generalize (allFormsL ((listF d l0).map pairF)).2 = e at *
          generalize (allFormsL ((listF d l0).map pairF)).1.toArray = bs at *
          go_wp2_with (first
            | (go_at_call 20; ((with_reducible refine (HFm.out _ ⟨hT_.out.below HBL.out⟩ HRL.out).mono ?_)); rintro en w10 ⟨rfl, hb10⟩; have HRM := Aside0.mk (Kd.R_below HRL.out hb10); have HBM := Aside0.mk (HBL.out.trans (hb10.mono HBL.out.size)); clear hb10 HRL HBL HFm)
            | (go_at_call 21; ((with_reducible refine (HRd.out _).mono ?_)); rintro en w11 ⟨hb11, g, p, rfl, hf11, g1, g2, g3, -⟩; have HF11 := Aside0.mk hf11; have HL11 := Aside0.mk hb11; clear hf11 hb11 HRd)
            | (go_at_call 15; ((with_reducible refine (HKd.out g p _ HF11.out).mono ?_)); rintro en w12 ⟨kv, rfl, hf12, ht12⟩; have HF12 := Aside0.mk hf12; have HL12 := Aside0.mk (HL11.out.trans (ht12.below (fun k hk => by rcases hk with hk | hk <;> omega) HL11.out.size)); clear hf12 ht12 HF11 HL11 HKd)
            | (go_at_call 18; ((with_reducible refine (HIn.out g p _ HF12.out (FormIs.alt HF12.out)).mono ?_)); rintro en w13 ⟨rfl, F13, ha13, hf13, ht13⟩; have HWh : Aside0 (WholeIs (listF d l0) w10 g p 0 w13) := ⟨⟨⟨F13, 2, ha13, hf13, Nat.le_refl _⟩, HL12.out.trans (ht13.below (fun k hk => by rcases hk with hk | hk <;> omega) HL12.out.size)⟩⟩; clear ha13 hf13 ht13 HF12 HL12 HIn))
          go_loopw [93] (fun v93 wr => ∃ i : Nat, v93 = .int .i64 (i : Int) ∧ i ≤ l0.length ∧ Aside0 (WholeIs (listF d l0) w10 g p i wr)) (fun v93 _ => l0.length - (intOf v93).toNat)
          case atStart => exact ⟨0, rfl, Nat.zero_le _, HWh⟩
          case round =>
            clear HWh
            obtain ⟨i, rfl, hi, HW⟩ := hrel
            obtain ⟨⟨F, kk, hA, hF, hkk⟩, hlow⟩ := HW.out
            rename_i wr2 _ _
            have hbw := HBM.out.trans (hlow.mono HBM.out.size)
            have HBW := Aside0.mk hbw
            have HLW := Aside0.mk hlow
            by_cases hlt : i < l0.length
            · have k1 : decide ((i : Int) < (l0.length : Int)) = true := by rw [decide_eq_true_eq]; omega
              have k2 : (0 : Int) ≤ (i : Int) ∧ (i : Int) < (l0.length : Int) := by omega
              have hti : ((i : Int)).toNat = i := Int.toNat_natCast i
              obtain ⟨ad, rfl, q0⟩ := Kd.at_string (Kd.C_below HC0.out hbw) (i : Int) (by omega) (by omega)
              rw [show rdOf ByteArray.empty l0 (i : Int) = l0[i] by simp [rdOf, hlt], hti] at q0
              have hi0 : i < 20 := Nat.lt_of_lt_of_le hlt hl
              have hk0 : kk < 1000 := kk_lt hi0 hkk
              have hk9 : kk + 1 ≤ 2 + (i + 1) := kk_le hkk
              have hnm := whole_name hvs i hi0 l0[i] (HLF.out.names i hlt) F hA kk hk0 g p _ hF
              generalize l0[i] = s at *
              by_cases ok : nameOk s = true
              · have e1 : (s.toList == ([] : List UInt8)) = false := by
                  rw [beq_eq_false_iff_ne, ByteArray.toList_eq]
                  intro h
                  exact name_ne s ok (ba_ext h)
                have e2 : (s.toList != s.toList) = false := by simp
                have HNm := Aside0.mk (hnm.mono fun e w' h => h.1 ok)
                clear hnm hA hF hlow hbw HW ok
                go_wp2_with (go_at_call 17; ((with_reducible refine (HNm.out).mono ?_)); rintro en w20 ⟨rfl, F', hA', hF', ht'⟩; have HW' : Aside0 (WholeIs (listF d l0) w10 g p (i + 1) w20) := ⟨⟨⟨F', kk + 1, hA', hF', hk9⟩, HLW.out.trans ((ht'.below (formB_low g1 g2 g3) HLW.out.size))⟩⟩; clear hA' hF' ht' HNm)
                refine ⟨⟨i + 1, by rw [show ((i + 1 : Nat) : Int) = (i : Int) + 1 by omega], by omega, HW'⟩, ?_⟩
                show l0.length - ((i : Int) + 1).toNat < l0.length - ((i : Int)).toNat
                omega
              · have HNm := Aside0.mk (hnm.mono fun e w' h => h.2 (Bool.eq_false_iff.2 ok))
                have e3 : ((100 + (i : Int)) == (100 + (i : Int))) = true := beq_self_eq_true _
                clear hnm hA hF hlow hbw HW ok
                go_wp2_with (first
                  | (go_at_call 17; ((with_reducible refine (HNm.out).mono ?_)); rintro en w20 ⟨rfl, F', hE', hT', hF', ht'⟩; have HD := Aside0.mk (form_done_e g p F' (kk + 1) w20 hF' (by rw [hE']; decide)); rw [hE', hT'] at HD; have HBD := Aside0.mk (HBW.out.trans ((ht'.below (B := w10.heap.size) (formB_low g1 g2 g3) HLW.out.size).mono HBM.out.size)); clear hE' hT' hF' ht' HNm)
                  | (go_at_call 14; ((with_reducible refine (HD.out).mono ?_)); rintro en w21 ⟨rfl, q, rfl⟩; clear HD))
                go_ret
                exact ⟨rfl, by apply pw_below_drewN; exact HBD.out⟩
            · have k1 : decide ((i : Int) < (l0.length : Int)) = false := by rw [decide_eq_false_iff_not]; omega
              obtain rfl : i = l0.length := by omega
              have hsp := HLF.out.last F hA
              have hord : F.order.length ≤ 4611686018427387904 := by rw [hA.order]; unfold tagsOf; rw [List.length_map]; have := HLn.out; omega
              have hd := form_done_ok g p F kk _ hF hA.e hord
              rw [hsp] at hd
              have HD := Aside0.mk hd
              have x1 : (n != n) = false := by simp
              have x2 : (more != more) = false := by simp
              clear hd hsp hord hA hF hlow hbw HW
              go_wp2_with (go_at_call 14; ((with_reducible refine (HD.out).mono ?_)); rintro en w21 ⟨rfl, rfl⟩; clear HD)
              refine ⟨⟨1, rfl, by decide, ⟨fun _ => Kd.R_below HRM.out HLW.out⟩, HBW⟩, ?_⟩
              show 2 - 1 < 2 - 0
              decide
        · have hnil := allFormsL_err ((listF d l0).map pairF) ce
          have te : ((((allFormsL ((listF d l0).map pairF)).2 : Nat) : Int) != 0) = true := by rw [bne_iff_ne]; omega
          rw [hnil] at HFm
          generalize (allFormsL ((listF d l0).map pairF)).2 = e at *
          clear hnil
          go_wp2_with (go_at_call 20; ((with_reducible refine (HFm.out _ ⟨hT_.out.below HBL.out⟩ HRL.out).mono ?_)); rintro en w10 ⟨rfl, hb10⟩; have HRM := Aside0.mk (Kd.R_below HRL.out hb10); have HBM := Aside0.mk (HBL.out.trans (hb10.mono HBL.out.size)); clear hb10 HRL HBL HFm)
          go_ret
          exact ⟨rfl, HBM.out⟩
      ·
        have hk1 : ((1 : Nat) : Int) = 1 := rfl
        have HR7 := Aside0.mk (HR.out (by decide))
        obtain ⟨A7, c7, rfl, hc7, -⟩ := Kd.R_reads HR7.out
        have hml : (listF d l0).length = 2 + l0.length := by unfold listF; rw [List.length_append, nameF_len]; rfl
        clear HR
        have HFm : Aside0 (∀ W A c m, Aside0 (Tabs_ W) → Kd.R k51 51 W w.heap.size (fun _ => True) (.slice A m c) (listM d l0 more) → Calls Tryd.prog 20 #[.slice A m c] W fun e w' => e = .returned (.tuple #[.string ⟨(allFormsL ((listM d l0 more).map pairF)).1.toArray⟩, .int .i64 ((allFormsL ((listM d l0 more).map pairF)).2 : Int)]) ∧ Below W.heap.size W w') := ⟨fun W A c m hT hR => by
          obtain ⟨e1, e2, e3⟩ := Kd.R_reads' hR
          subst e1
          exact tag_Forms.calls A c (listM d l0 more) _ _ W hT e3 e2 (by unfold tag_Forms.f; rw [if_pos HLM.out.small])⟩
        by_cases ce : (allFormsL ((listM d l0 more).map pairF)).2 = 0
        · have hrd := readB_formed (listM d l0 more) HLM.out.nodup HLM.out.len HLM.out.h35 HLM.out.pos ce
          have hrs := readB_sizes _ _ _ hrd
          have hvs : ∀ x s, valsOf (listM d l0 more) x = some s → s.size ≤ 140737488351232 := fun x s hx => by have := hrs.1 x s hx; omega
          have hbs := allFormsL_len ((listM d l0 more).map pairF)
          have HRd : Aside0 (∀ W, Calls Tryd.prog 21 #[.string ⟨(allFormsL ((listM d l0 more).map pairF)).1.toArray⟩] W (ReadIs (some (formOf (listM d l0 more)), 0) W)) := ⟨fun W => by rw [← hrd]; exact read_walk _ W (by show (allFormsL ((listM d l0 more).map pairF)).1.toArray.size ≤ _; rw [List.size_toArray]; omega)⟩
          have HKd : Aside0 (∀ g p W, FormIs g p (formOf (listM d l0 more)) 0 W → _) := ⟨fun g p W h => whole_kind (L := (listM d l0 more)) g p W h⟩
          have HIn : Aside0 (∀ g p W, FormIs g p ((formOf (listM d l0 more)).mark 35) 1 W → p.a < W.heap.size → _) := ⟨fun g p W h ha => whole_int (n := n) hvs HLM.out.at400 hnp hn.1 g p W h ha⟩
          have te : ((((allFormsL ((listM d l0 more).map pairF)).2 : Nat) : Int) != 0) = false := by rw [ce]; rfl
          clear hrd hbs
          generalize (allFormsL ((listM d l0 more).map pairF)).2 = e at *
          generalize (allFormsL ((listM d l0 more).map pairF)).1.toArray = bs at *
          go_wp2_with (first
            | (at_builtin; refine Kd.R_append k51 (w0 := w) (W := wr) w.heap.size rfl (.tmp 65) (.tmp 68) 52 51 (.agg #[.int .i64 0, .string ⟨#[]⟩]) 24 rfl Tryd.underlying52 info_field rfl (by decide) (by decide) (.slice A7 (listF d l0).length c7) (listF d l0) ⟨more, ⟨#[121]⟩⟩ [.int .i64 more, .string ⟨#[121]⟩] (fun _ => True) (fun _ => False) (by rfl) (by rfl) (k51_mkM _ _ _ ⟨more, ⟨#[121]⟩⟩) (fun _ h => h.elim) (fun _ _ => trivial) HR7.out HB.out HB.out.size (by rw [hml]; omega) ?_; intro v8 w8 hR8 hb8 hg8 hat8; obtain ⟨A8, c8, rfl, hc8, -⟩ := Kd.R_reads hR8; obtain ⟨m8, hm8⟩ : ∃ m, (listF d l0 ++ [(⟨more, ⟨#[121]⟩⟩ : S51)]).length = m := ⟨_, rfl⟩; rw [hm8] at hR8; rw [hm8]; have HRL := Aside0.mk hR8; have HBL := Aside0.mk hb8; clear hR8 hb8 hg8 hat8 HR7 HB hc8)
            | (go_at_call 20; ((with_reducible refine (HFm.out _ _ _ _ ⟨hT_.out.below HBL.out⟩ HRL.out).mono ?_)); rintro en w10 ⟨rfl, hb10⟩; have HRM := Aside0.mk (Kd.R_below HRL.out hb10); have HBM := Aside0.mk (HBL.out.trans (hb10.mono HBL.out.size)); clear hb10 HRL HBL HFm)
            | (go_at_call 21; ((with_reducible refine (HRd.out _).mono ?_)); rintro en w11 ⟨hb11, g, p, rfl, hf11, g1, g2, g3, -⟩; have HF11 := Aside0.mk hf11; have HL11 := Aside0.mk hb11; clear hf11 hb11 HRd)
            | (go_at_call 15; ((with_reducible refine (HKd.out g p _ HF11.out).mono ?_)); rintro en w12 ⟨kv, rfl, hf12, ht12⟩; have HF12 := Aside0.mk hf12; have HL12 := Aside0.mk (HL11.out.trans (ht12.below (fun k hk => by rcases hk with hk | hk <;> omega) HL11.out.size)); clear hf12 ht12 HF11 HL11 HKd)
            | (go_at_call 18; ((with_reducible refine (HIn.out g p _ HF12.out (FormIs.alt HF12.out)).mono ?_)); rintro en w13 ⟨rfl, F13, ha13, hf13, ht13⟩; have HWh : Aside0 (WholeIs (listM d l0 more) w10 g p 0 w13) := ⟨⟨⟨F13, 2, ha13, hf13, Nat.le_refl _⟩, HL12.out.trans (ht13.below (fun k hk => by rcases hk with hk | hk <;> omega) HL12.out.size)⟩⟩; clear ha13 hf13 ht13 HF12 HL12 HIn))
          go_loopw [93] (fun v93 wr => ∃ i : Nat, v93 = .int .i64 (i : Int) ∧ i ≤ l0.length ∧ Aside0 (WholeIs (listM d l0 more) w10 g p i wr)) (fun v93 _ => l0.length - (intOf v93).toNat)
          case atStart => exact ⟨0, rfl, Nat.zero_le _, HWh⟩
          case round =>
            clear HWh
            obtain ⟨i, rfl, hi, HW⟩ := hrel
            obtain ⟨⟨F, kk, hA, hF, hkk⟩, hlow⟩ := HW.out
            rename_i wr2 _ _
            have hbw := HBM.out.trans (hlow.mono HBM.out.size)
            have HBW := Aside0.mk hbw
            have HLW := Aside0.mk hlow
            by_cases hlt : i < l0.length
            · have k1 : decide ((i : Int) < (l0.length : Int)) = true := by rw [decide_eq_true_eq]; omega
              have k2 : (0 : Int) ≤ (i : Int) ∧ (i : Int) < (l0.length : Int) := by omega
              have hti : ((i : Int)).toNat = i := Int.toNat_natCast i
              obtain ⟨ad, rfl, q0⟩ := Kd.at_string (Kd.C_below HC0.out hbw) (i : Int) (by omega) (by omega)
              rw [show rdOf ByteArray.empty l0 (i : Int) = l0[i] by simp [rdOf, hlt], hti] at q0
              have hi0 : i < 20 := Nat.lt_of_lt_of_le hlt hl
              have hk0 : kk < 1000 := kk_lt hi0 hkk
              have hk9 : kk + 1 ≤ 2 + (i + 1) := kk_le hkk
              have hnm := whole_name hvs i hi0 l0[i] (HLM.out.names i hlt) F hA kk hk0 g p _ hF
              generalize l0[i] = s at *
              by_cases ok : nameOk s = true
              · have e1 : (s.toList == ([] : List UInt8)) = false := by
                  rw [beq_eq_false_iff_ne, ByteArray.toList_eq]
                  intro h
                  exact name_ne s ok (ba_ext h)
                have e2 : (s.toList != s.toList) = false := by simp
                have HNm := Aside0.mk (hnm.mono fun e w' h => h.1 ok)
                clear hnm hA hF hlow hbw HW ok
                go_wp2_with (go_at_call 17; ((with_reducible refine (HNm.out).mono ?_)); rintro en w20 ⟨rfl, F', hA', hF', ht'⟩; have HW' : Aside0 (WholeIs (listM d l0 more) w10 g p (i + 1) w20) := ⟨⟨⟨F', kk + 1, hA', hF', hk9⟩, HLW.out.trans ((ht'.below (formB_low g1 g2 g3) HLW.out.size))⟩⟩; clear hA' hF' ht' HNm)
                refine ⟨⟨i + 1, by rw [show ((i + 1 : Nat) : Int) = (i : Int) + 1 by omega], by omega, HW'⟩, ?_⟩
                show l0.length - ((i : Int) + 1).toNat < l0.length - ((i : Int)).toNat
                omega
              · have HNm := Aside0.mk (hnm.mono fun e w' h => h.2 (Bool.eq_false_iff.2 ok))
                have e3 : ((100 + (i : Int)) == (100 + (i : Int))) = true := beq_self_eq_true _
                clear hnm hA hF hlow hbw HW ok
                go_wp2_with (first
                  | (go_at_call 17; ((with_reducible refine (HNm.out).mono ?_)); rintro en w20 ⟨rfl, F', hE', hT', hF', ht'⟩; have HD := Aside0.mk (form_done_e g p F' (kk + 1) w20 hF' (by rw [hE']; decide)); rw [hE', hT'] at HD; have HBD := Aside0.mk (HBW.out.trans ((ht'.below (B := w10.heap.size) (formB_low g1 g2 g3) HLW.out.size).mono HBM.out.size)); clear hE' hT' hF' ht' HNm)
                  | (go_at_call 14; ((with_reducible refine (HD.out).mono ?_)); rintro en w21 ⟨rfl, q, rfl⟩; clear HD))
                go_ret
                exact ⟨rfl, by apply pw_below_drewN; exact HBD.out⟩
            · have k1 : decide ((i : Int) < (l0.length : Int)) = false := by rw [decide_eq_false_iff_not]; omega
              obtain rfl : i = l0.length := by omega
              have hsp := HLM.out.last F hA
              have hord : F.order.length ≤ 4611686018427387904 := by rw [hA.order]; unfold tagsOf; rw [List.length_map]; have := HLn.out; omega
              have hd := form_done_ok g p F kk _ hF hA.e hord
              rw [hsp] at hd
              have HD := Aside0.mk hd
              have x1 : (n != n) = false := by simp
              have x2 : (more != more) = false := by simp
              clear hd hsp hord hA hF hlow hbw HW
              go_wp2_with (go_at_call 14; ((with_reducible refine (HD.out).mono ?_)); rintro en w21 ⟨rfl, rfl⟩; clear HD)
              refine ⟨⟨2, rfl, by decide, ⟨fun h => absurd h (by decide)⟩, HBW⟩, ?_⟩
              show 2 - 2 < 2 - 1
              decide
        · have hnil := allFormsL_err ((listM d l0 more).map pairF) ce
          have te : ((((allFormsL ((listM d l0 more).map pairF)).2 : Nat) : Int) != 0) = true := by rw [bne_iff_ne]; omega
          rw [hnil] at HFm
          generalize (allFormsL ((listM d l0 more).map pairF)).2 = e at *
          clear hnil
          go_wp2_with (first
                      | (at_builtin; refine Kd.R_append k51 (w0 := w) (W := wr) w.heap.size rfl (.tmp 65) (.tmp 68) 52 51 (.agg #[.int .i64 0, .string ⟨#[]⟩]) 24 rfl Tryd.underlying52 info_field rfl (by decide) (by decide) (.slice A7 (listF d l0).length c7) (listF d l0) ⟨more, ⟨#[121]⟩⟩ [.int .i64 more, .string ⟨#[121]⟩] (fun _ => True) (fun _ => False) (by rfl) (by rfl) (k51_mkM _ _ _ ⟨more, ⟨#[121]⟩⟩) (fun _ h => h.elim) (fun _ _ => trivial) HR7.out HB.out HB.out.size (by rw [hml]; omega) ?_; intro v8 w8 hR8 hb8 hg8 hat8; obtain ⟨A8, c8, rfl, hc8, -⟩ := Kd.R_reads hR8; obtain ⟨m8, hm8⟩ : ∃ m, (listF d l0 ++ [(⟨more, ⟨#[121]⟩⟩ : S51)]).length = m := ⟨_, rfl⟩; rw [hm8] at hR8; rw [hm8]; have HRL := Aside0.mk hR8; have HBL := Aside0.mk hb8; clear hR8 hb8 hg8 hat8 HR7 HB hc8)
                      | (go_at_call 20; ((with_reducible refine (HFm.out _ _ _ _ ⟨hT_.out.below HBL.out⟩ HRL.out).mono ?_)); rintro en w10 ⟨rfl, hb10⟩; have HRM := Aside0.mk (Kd.R_below HRL.out hb10); have HBM := Aside0.mk (HBL.out.trans (hb10.mono HBL.out.size)); clear hb10 HRL HBL HFm))
          go_ret
          exact ⟨rfl, HBM.out⟩
theorem whole_g1 (A0 : Option Addr) (c0 : Nat) (l0 : List ByteArray) (n more : Int) (w : World) (hT_ : Aside0 (Tabs_ w)) (h : 20 < l0.length) : Calls Tryd.prog 6 #[.slice A0 l0.length c0, .int .i64 n, .int .i64 more] w (TrueW w) := by
  have HAw : Aside0 (∀ W, Calls Tryd.prog 7 #[] W fun e w' => e = .returned (.bool true) ∧ Below W.heap.size W w') := ⟨fun W => awake_walk W⟩
  have t1 : decide ((20 : Int) < (l0.length : Int)) = true := by rw [decide_eq_true_eq]; omega
  have t1' : decide (20 < l0.length) = true := by rw [decide_eq_true_eq]; omega
  go_enter Tryd.func6, Tryd.ntmps6
  go_wp2_with (go_at_call 7; ((with_reducible refine (HAw.out _).mono ?_)); rintro e w1 ⟨rfl, hb1⟩; have HB1 := Aside0.mk hb1; clear hb1 HAw)
  go_ret
  exact ⟨rfl, HB1.out⟩
theorem whole_g2 (A0 : Option Addr) (c0 : Nat) (l0 : List ByteArray) (n more : Int) (w : World) (hT_ : Aside0 (Tabs_ w)) (h : l0.length ≤ 20) (hn : n < 0) : Calls Tryd.prog 6 #[.slice A0 l0.length c0, .int .i64 n, .int .i64 more] w (TrueW w) := by
  have HAw : Aside0 (∀ W, Calls Tryd.prog 7 #[] W fun e w' => e = .returned (.bool true) ∧ Below W.heap.size W w') := ⟨fun W => awake_walk W⟩
  have t1 : decide ((20 : Int) < (l0.length : Int)) = false := by rw [decide_eq_false_iff_not]; omega
  have t1' : decide (20 < l0.length) = false := by rw [decide_eq_false_iff_not]; omega
  have t2 : decide (n < 0) = true := by rw [decide_eq_true_eq]; omega
  go_enter Tryd.func6, Tryd.ntmps6
  go_wp2_with (go_at_call 7; ((with_reducible refine (HAw.out _).mono ?_)); rintro e w1 ⟨rfl, hb1⟩; have HB1 := Aside0.mk hb1; clear hb1 HAw)
  go_ret
  exact ⟨rfl, HB1.out⟩
theorem whole_g3 (A0 : Option Addr) (c0 : Nat) (l0 : List ByteArray) (n more : Int) (w : World) (hT_ : Aside0 (Tabs_ w)) (h : l0.length ≤ 20) (hn : 0 ≤ n) (hm : more < 500) : Calls Tryd.prog 6 #[.slice A0 l0.length c0, .int .i64 n, .int .i64 more] w (TrueW w) := by
  have HAw : Aside0 (∀ W, Calls Tryd.prog 7 #[] W fun e w' => e = .returned (.bool true) ∧ Below W.heap.size W w') := ⟨fun W => awake_walk W⟩
  have t1 : decide ((20 : Int) < (l0.length : Int)) = false := by rw [decide_eq_false_iff_not]; omega
  have t1' : decide (20 < l0.length) = false := by rw [decide_eq_false_iff_not]; omega
  have t2 : decide (n < 0) = false := by rw [decide_eq_false_iff_not]; omega
  have t3 : decide (more < 500) = true := by rw [decide_eq_true_eq]; omega
  go_enter Tryd.func6, Tryd.ntmps6
  go_wp2_with (go_at_call 7; ((with_reducible refine (HAw.out _).mono ?_)); rintro e w1 ⟨rfl, hb1⟩; have HB1 := Aside0.mk hb1; clear hb1 HAw)
  go_ret
  exact ⟨rfl, HB1.out⟩
theorem whole_g4 (A0 : Option Addr) (c0 : Nat) (l0 : List ByteArray) (n more : Int) (w : World) (hT_ : Aside0 (Tabs_ w)) (h : l0.length ≤ 20) (hn : 0 ≤ n) (hm : 500 ≤ more) (hm2 : 999 < more) : Calls Tryd.prog 6 #[.slice A0 l0.length c0, .int .i64 n, .int .i64 more] w (TrueW w) := by
  have HAw : Aside0 (∀ W, Calls Tryd.prog 7 #[] W fun e w' => e = .returned (.bool true) ∧ Below W.heap.size W w') := ⟨fun W => awake_walk W⟩
  have t1 : decide ((20 : Int) < (l0.length : Int)) = false := by rw [decide_eq_false_iff_not]; omega
  have t1' : decide (20 < l0.length) = false := by rw [decide_eq_false_iff_not]; omega
  have t2 : decide (n < 0) = false := by rw [decide_eq_false_iff_not]; omega
  have t3 : decide (more < 500) = false := by rw [decide_eq_false_iff_not]; omega
  have t4 : decide ((999 : Int) < more) = true := by rw [decide_eq_true_eq]; omega
  go_enter Tryd.func6, Tryd.ntmps6
  go_wp2_with (go_at_call 7; ((with_reducible refine (HAw.out _).mono ?_)); rintro e w1 ⟨rfl, hb1⟩; have HB1 := Aside0.mk hb1; clear hb1 HAw)
  go_ret
  exact ⟨rfl, HB1.out⟩
def spigotlaw11_BodyWhole.f (l0 : List ByteArray) (a1 a2 : Int) : Option Bool := if a1 ≤ 9223372036854775807 ∧ (∀ x ∈ l0, x.size ≤ 9223372036854775807) then some true else none
theorem spigotlaw11_BodyWhole.calls (A0 : Option Addr) (c0 : Nat) (l0 : List ByteArray) (a1 a2 : Int) (r : Bool) (w : World) (hT_ : Aside0 (Tabs_ w)) (hr0 : Kd.C Kd.string w A0 l0.length l0) (hc0 : l0.length ≤ c0) (h : spigotlaw11_BodyWhole.f l0 a1 a2 = some r) :
    Calls Tryd.prog 6 #[.slice A0 l0.length c0, .int .i64 a1, .int .i64 a2] w fun e w' => e = .returned (.bool r) ∧ Below w.heap.size w w' := by
  unfold spigotlaw11_BodyWhole.f at h
  by_cases c : a1 ≤ 9223372036854775807 ∧ (∀ x ∈ l0, x.size ≤ 9223372036854775807)
  · rw [if_pos c] at h
    obtain rfl := Option.some.inj h
    by_cases g1 : l0.length ≤ 20
    case neg => exact whole_g1 A0 c0 l0 a1 a2 w hT_ (by omega)
    by_cases g2 : 0 ≤ a1
    case neg => exact whole_g2 A0 c0 l0 a1 a2 w hT_ g1 (by omega)
    by_cases g3 : 500 ≤ a2
    case neg => exact whole_g3 A0 c0 l0 a1 a2 w hT_ g1 g2 (by omega)
    by_cases g4 : a2 ≤ 999
    case neg => exact whole_g4 A0 c0 l0 a1 a2 w hT_ g1 g2 g3 (by omega)
    exact Whole_walk A0 c0 l0 a1 a2 w hT_ hr0 hc0 g1 ⟨g2, c.1⟩ ⟨g3, g4⟩ c.2
  · rw [if_neg c] at h; cases h
end Go.Proofs.YtbkpkfbdpmjgoaaDoor.T
end
