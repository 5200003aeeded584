/- The pure statement of the law 'FnPlaceUnder': for every list of bytes the law's function returns true (no condition but that of the form: the list's length). -/
import Derived.Test.YtjpjnhcdlfjimaaQFnPlaceUnderx6
namespace Go.Proofs.Ytjpjnhcdlfjimaa.Pure
open Go Go.RowKit Go.Proofs.Ytjpjnhcdlfjimaa.PFnPlaceUnder Go.Proofs.YtjpjnhcdlfjimaaW.PrintWords Go.Proofs.YtjpjnhcdlfjimaaW.PrintLast
set_option linter.unusedVariables false
set_option linter.unusedSimpArgs false

theorem w64 {n : Int} (h1 : -9223372036854775808 ≤ n) (h2 : n ≤ 9223372036854775807) : wrap64 n = n := by
  unfold wrap64; omega
theorem wnext {i n : Nat} (h : i < n) (hn : n ≤ 4611686018427387904) : wrap64 ((i : Int) + 1) = ((i + 1 : Nat) : Int) := by
  rw [w64 (by omega) (by omega)]; omega
/-- A loop that goes up to n, by rounds. -/
theorem loop_up {n : Nat} (Q : Nat → Nat → Prop) (last : ∀ k, Q (k + 1) n) (step : ∀ k i, i < n → Q k (i + 1) → Q (k + 1) i) : ∀ k i, i ≤ n → n - i < k → Q k i := by
  intro k
  induction k with
  | zero => intro i _ h; omega
  | succ k ih =>
    intro i hi hk
    by_cases h : i = n
    · subst h; exact last k
    · exact step k i (by omega) (ih (i + 1) (by omega) (by omega))
theorem drop_at {α : Type} {l : List α} {i : Nat} (d : α) (h : i < l.length) : l.drop i = l.getD ((i : Int)).toNat d :: l.drop (i + 1) := by
  rw [List.drop_eq_getElem_cons h, List.getD_eq_getElem?_getD]
  simp [h]
theorem range_at {i n : Nat} (h : i < n) : List.range' i (n - i) = i :: List.range' (i + 1) (n - (i + 1)) := by
  rw [show n - i = (n - (i + 1)) + 1 by omega, List.range'_succ]
theorem range_end (n : Nat) : List.range' n (n - n) = [] := by simp
theorem bsome {α β : Type} (a : α) (f : α → Option β) : (some a).bind f = f a := by
  cases h : f a <;> simp [h]

theorem within_at (a b c : Int) : impl_within.f a b c = some (decide (b ≤ a ∧ a ≤ c)) := by
  unfold impl_within.f
  by_cases h : a ≥ b
  · rw [if_pos h]; congr 1; exact decide_eq_decide.mpr ⟨fun x => ⟨h, x⟩, fun x => x.2⟩
  · rw [if_neg h]; congr 1; exact (decide_eq_false fun x => h x.1).symm

theorem inRange_at (a b c : Int) : spec_inRange.f a b c = some (decide (b ≤ a ∧ a ≤ c)) := by
  unfold spec_inRange.f
  by_cases h : a ≥ b
  · rw [if_pos h]; congr 1; exact decide_eq_decide.mpr ⟨fun x => ⟨h, x⟩, fun x => x.2⟩
  · rw [if_neg h]; congr 1; exact (decide_eq_false fun x => h x.1).symm

def slotOk (x : S51) : Bool := decide (0 ≤ x.f0 ∧ x.f0 ≤ 3) && decide (0 ≤ x.f1 ∧ x.f1 ≤ 103)
theorem rd_slot {l : List S51} {i : Nat} (h : i < l.length) : l.drop i = rd_T51 l (i : Int) :: l.drop (i + 1) := drop_at z51 h
def plOk (l : List S51) : Bool := l.all slotOk && decide (l.length ≤ 20)

theorem validSlot_at (x : S51) : spec_validSlot.f x.f0 x.f1 = some (slotOk x) := by
  unfold spec_validSlot.f slotOk
  simp only [inRange_at, Option.bind_some]
  by_cases h : 0 ≤ x.f0 ∧ x.f0 ≤ 3 <;> simp [h]
theorem spec_place_l (l : List S51) (hl : l.length ≤ 4611686018427387904) : ∀ k i, i ≤ l.length → l.length - i < k → spec_validPlace.l0 k l (i : Int) = some ((l.drop i).all slotOk) := by
  refine loop_up (fun k i => spec_validPlace.l0 k l (i : Int) = some ((l.drop i).all slotOk)) ?_ ?_
  · intro k
    simp only [spec_validPlace.l0]
    rw [if_neg (by omega), List.drop_length]; rfl
  · intro k i hi ih
    simp only [spec_validPlace.l0]
    rw [if_pos (by omega), if_pos (by omega), validSlot_at, rd_slot hi]
    simp only [Option.bind_some, wnext hi hl, ih, List.all_cons]
    by_cases hg : slotOk (rd_T51 l (i : Int)) = true <;> simp [hg]
theorem spec_place_at (l : List S51) (hl : l.length ≤ 4611686018427387904) (k : Nat) (hk : l.length < k) : spec_validPlace.f k l = some (plOk l) := by
  have := spec_place_l l hl k 0 (by omega) (by omega)
  unfold spec_validPlace.f plOk
  by_cases h : (l.length : Int) > 20
  · rw [if_pos h, show decide (l.length ≤ 20) = false from decide_eq_false (by omega), Bool.and_false]
  · rw [if_neg h, show decide (l.length ≤ 20) = true from decide_eq_true (by omega), Bool.and_true]; exact this

theorem impl_place_l (l : List S51) (hl : l.length ≤ 4611686018427387904) : ∀ k i, i ≤ l.length → l.length - i < k → impl_PlaceOk.l0 k l l (l.length : Int) (i : Int) = some ((l.drop i).all slotOk && decide (l.length ≤ 20)) := by
  refine loop_up (fun k i => impl_PlaceOk.l0 k l l (l.length : Int) (i : Int) = some ((l.drop i).all slotOk && decide (l.length ≤ 20))) ?_ ?_
  · intro k
    simp only [impl_PlaceOk.l0]
    rw [if_neg (by omega), List.drop_length]
    simp only [List.all_nil, Bool.true_and]
    congr 1; exact decide_eq_decide.mpr (by omega)
  · intro k i hi ih
    simp only [impl_PlaceOk.l0]
    rw [if_pos (by omega), if_pos (by omega), if_pos (by omega), rd_slot hi]
    simp only [within_at, Option.bind_some, wnext hi hl, ih, List.all_cons, slotOk, decide_eq_true_eq]
    by_cases h0 : 0 ≤ (rd_T51 l (i : Int)).f0 ∧ (rd_T51 l (i : Int)).f0 ≤ 3
    · by_cases h1 : 0 ≤ (rd_T51 l (i : Int)).f1 ∧ (rd_T51 l (i : Int)).f1 ≤ 103
      · rw [if_pos h0, if_pos h1]; simp [h0, h1]
      · rw [if_pos h0, if_neg h1]; simp [h0, h1]
    · rw [if_neg h0]; simp [h0]
theorem impl_place_at (l : List S51) (hl : l.length ≤ 4611686018427387904) (k : Nat) (hk : l.length < k) : impl_PlaceOk.f k l = some (plOk l) := by
  have := impl_place_l l hl k 0 (by omega) (by omega)
  unfold impl_PlaceOk.f plOk
  exact this

/-- Which of two places stands ahead. -/
def cmp : List S51 → List S51 → Int
  | [], [] => 0
  | [], _ :: _ => -1
  | _ :: _, [] => 1
  | x :: xs, y :: ys => if x.f0 = y.f0 ∧ x.f1 = y.f1 then cmp xs ys else if x.f0 < y.f0 ∨ (x.f0 = y.f0 ∧ x.f1 < y.f1) then -1 else 1
theorem cmp_end {a b : List S51} (i : Nat) (h : i = min a.length b.length) : cmp (a.drop i) (b.drop i) = if (a.length : Int) < (b.length : Int) then -1 else if (a.length : Int) > (b.length : Int) then 1 else 0 := by
  by_cases h1 : a.length < b.length
  · rw [if_pos (by omega), List.drop_of_length_le (by omega : a.length ≤ i), drop_at z51 (by omega : i < b.length)]; rfl
  · rw [if_neg (by omega), List.drop_of_length_le (by omega : b.length ≤ i)]
    by_cases h2 : b.length < a.length
    · rw [if_pos (by omega), drop_at z51 (by omega : i < a.length)]; rfl
    · rw [if_neg (by omega), List.drop_of_length_le (by omega : a.length ≤ i)]; rfl
theorem cmp_next {a b : List S51} {i : Nat} (ha : i < a.length) (hb : i < b.length) : cmp (a.drop i) (b.drop i) =
    (if (rd_T51 a (i : Int)).f0 = (rd_T51 b (i : Int)).f0 ∧ (rd_T51 a (i : Int)).f1 = (rd_T51 b (i : Int)).f1 then cmp (a.drop (i + 1)) (b.drop (i + 1)) else
      if (rd_T51 a (i : Int)).f0 < (rd_T51 b (i : Int)).f0 ∨ ((rd_T51 a (i : Int)).f0 = (rd_T51 b (i : Int)).f0 ∧ (rd_T51 a (i : Int)).f1 < (rd_T51 b (i : Int)).f1) then -1 else 1) := by
  rw [rd_slot ha, rd_slot hb]; rfl
theorem cmp_refl (a : List S51) : cmp a a = 0 := by
  induction a with
  | nil => rfl
  | cons x xs ih => unfold cmp; rw [if_pos ⟨rfl, rfl⟩]; exact ih
theorem cmp_zero {a b : List S51} (h : cmp a b = 0) : a = b := by
  induction a generalizing b with
  | nil => cases b with
    | nil => rfl
    | cons y ys => simp [cmp] at h
  | cons x xs ih => cases b with
    | nil => simp [cmp] at h
    | cons y ys =>
      unfold cmp at h
      by_cases e : x.f0 = y.f0 ∧ x.f1 = y.f1
      · rw [if_pos e] at h
        rw [ih h]
        obtain ⟨x0, x1⟩ := x; obtain ⟨y0, y1⟩ := y
        obtain ⟨e0, e1⟩ := e
        simp only at e0 e1
        rw [e0, e1]
      · rw [if_neg e] at h; split at h <;> omega
theorem cmp_neg (a b : List S51) : cmp b a = - cmp a b := by
  induction a generalizing b with
  | nil => cases b <;> rfl
  | cons x xs ih => cases b with
    | nil => rfl
    | cons y ys =>
      unfold cmp
      by_cases e : x.f0 = y.f0 ∧ x.f1 = y.f1
      · rw [if_pos e, if_pos ⟨e.1.symm, e.2.symm⟩]; exact ih ys
      · rw [if_neg e, if_neg (fun q => e ⟨q.1.symm, q.2.symm⟩)]
        by_cases l : x.f0 < y.f0 ∨ (x.f0 = y.f0 ∧ x.f1 < y.f1)
        · rw [if_pos l, if_neg (by omega)]; rfl
        · rw [if_neg l, if_pos (by omega)]
theorem cmp_three (a b : List S51) : cmp a b = -1 ∨ cmp a b = 0 ∨ cmp a b = 1 := by
  induction a generalizing b with
  | nil => cases b <;> simp [cmp]
  | cons x xs ih => cases b with
    | nil => simp [cmp]
    | cons y ys =>
      unfold cmp
      split
      · exact ih ys
      · split <;> simp

theorem impl_cmp_l (a b : List S51) (hb : b.length ≤ 4611686018427387904) : ∀ k i, i ≤ min a.length b.length → min a.length b.length - i < k → impl_placeCmp.l0 k a b ((min a.length b.length : Nat) : Int) (i : Int) = some (cmp (a.drop i) (b.drop i)) := by
  refine loop_up (fun k i => impl_placeCmp.l0 k a b ((min a.length b.length : Nat) : Int) (i : Int) = some (cmp (a.drop i) (b.drop i))) ?_ ?_
  · intro k
    simp only [impl_placeCmp.l0]
    rw [if_neg (by omega), cmp_end _ rfl]
    repeat' split
    all_goals rfl
  · intro k i hi ih
    have ha' : i < a.length := by omega
    have hb' : i < b.length := by omega
    simp only [impl_placeCmp.l0]
    rw [if_pos (by omega), if_pos (by omega), if_pos (by omega), if_pos (by omega), wnext hi (by omega), ih, cmp_next ha' hb']
    generalize rd_T51 a (i : Int) = x
    generalize rd_T51 b (i : Int) = y
    by_cases e : x.f0 = y.f0 ∧ x.f1 = y.f1
    · rw [if_pos e, if_pos (by simp [e])]
    · rw [if_neg e, if_neg (by simpa using e)]
      by_cases l : x.f0 < y.f0 ∨ (x.f0 = y.f0 ∧ x.f1 < y.f1)
      · rw [if_pos l]
        repeat' split
        all_goals first
          | rfl
          | (exfalso; omega)
      · rw [if_neg l]
        repeat' split
        all_goals first
          | rfl
          | (exfalso; omega)
theorem impl_cmp_at (a b : List S51) (hb : b.length ≤ 4611686018427387904) (k : Nat) (hk : min a.length b.length < k) : impl_placeCmp.f k a b = some (cmp a b) := by
  have := impl_cmp_l a b hb k 0 (by omega) (by omega)
  unfold impl_placeCmp.f
  rw [show mn (a.length : Int) (b.length : Int) = ((min a.length b.length : Nat) : Int) by unfold mn; split <;> omega]
  exact this

theorem spec_cmp_l (a b : List S51) (hb : b.length ≤ 4611686018427387904) (ha : a.length ≤ 4611686018427387904) : ∀ d i k, min a.length b.length - i = d → i ≤ min a.length b.length → 3 * d + 2 ≤ k → spec_comparePlaces.l0 k a b (i : Int) = some (cmp (a.drop i) (b.drop i)) := by
  intro d
  induction d with
  | zero =>
    intro i k hd hi hk
    obtain ⟨k, rfl⟩ : ∃ m, k = m + 2 := ⟨k - 2, by omega⟩
    have he : i = min a.length b.length := by omega
    have hj : spec_comparePlaces.j1 (k + 1) a b (i : Int) false = some (cmp (a.drop i) (b.drop i)) := by
      simp only [spec_comparePlaces.j1]
      rw [if_neg (by simp), cmp_end i he]
      repeat' split
      all_goals rfl
    simp only [spec_comparePlaces.l0]
    by_cases h1 : (i : Int) < (a.length : Int)
    · rw [if_pos h1, decide_eq_false (by omega : ¬ (i : Int) < (b.length : Int))]; exact hj
    · rw [if_neg h1]; exact hj
  | succ d ih =>
    intro i k hd hi hk
    obtain ⟨k, rfl⟩ : ∃ m, k = m + 3 := ⟨k - 3, by omega⟩
    have ha' : i < a.length := by omega
    have hb' : i < b.length := by omega
    have hn := ih (i + 1) k (by omega) (by omega) (by omega)
    simp only [spec_comparePlaces.l0]
    rw [if_pos (by omega), decide_eq_true (by omega : (i : Int) < (b.length : Int))]
    simp only [spec_comparePlaces.j1]
    rw [if_pos trivial, if_pos (by omega), if_pos (by omega), if_pos (by omega), cmp_next ha' hb']
    simp only [spec_comparePlaces.j2]
    rw [wnext (n := b.length) hb' hb, hn]
    simp only [show (0 : Int) ≤ (i : Int) from by omega, show (i : Int) < (a.length : Int) from by omega, show (i : Int) < (b.length : Int) from by omega, if_true]
    generalize rd_T51 a (i : Int) = x
    generalize rd_T51 b (i : Int) = y
    by_cases e : x.f0 = y.f0 ∧ x.f1 = y.f1
    · obtain ⟨e0, e1⟩ := e
      simp [e0, e1]
    · rw [if_neg e]
      have hne : (!(x.f0 == y.f0) || !(x.f1 == y.f1)) = true := by
        rw [Bool.or_eq_true, Bool.not_eq_true', Bool.not_eq_true', beq_eq_false_iff_ne, beq_eq_false_iff_ne]
        by_cases h0 : x.f0 = y.f0
        · exact Or.inr fun h1 => e ⟨h0, h1⟩
        · exact Or.inl h0
      rw [hne]
      by_cases l : x.f0 < y.f0 ∨ (x.f0 = y.f0 ∧ x.f1 < y.f1)
      · rw [if_pos l]
        by_cases l0 : x.f0 < y.f0
        · simp [l0]
        · obtain ⟨e0, e1⟩ : x.f0 = y.f0 ∧ x.f1 < y.f1 := by omega
          simp [e0, e1]
      · rw [if_neg l]
        have l0 : ¬ x.f0 < y.f0 := by omega
        by_cases e0 : x.f0 = y.f0
        · have l1 : ¬ x.f1 < y.f1 := by omega
          simp [e0, l1]
        · simp [l0, e0]
theorem spec_cmp_at (a b : List S51) (ha : a.length ≤ 4611686018427387904) (hb : b.length ≤ 4611686018427387904) (k : Nat) (hk : 3 * min a.length b.length + 2 ≤ k) : spec_comparePlaces.f k a b = some (cmp a b) := by
  have := spec_cmp_l a b hb ha _ 0 k rfl (by omega) (by omega)
  unfold spec_comparePlaces.f
  exact this


/-- A source of draws: its bytes are bytes, and no more than 8000 of them are taken. -/
def Src (l : List Int) (a f : Int) : Prop := (∀ x ∈ l, 0 ≤ x ∧ x ≤ 255) ∧ 0 ≤ a ∧ 0 ≤ f ∧ a + 2 * f ≤ 8000

theorem rd_in {l : List Int} {i : Int} (h0 : 0 ≤ i) (h1 : i < (l.length : Int)) : rd l i ∈ l := by
  have h : i.toNat < l.length := by omega
  unfold rd
  rw [List.getD_eq_getElem?_getD, List.getElem?_eq_getElem h]
  exact List.getElem_mem h

theorem pick_tells {l : List Int} {a f : Int} (n : Int) (h : Src l a f) (k : Nat) (hk : 0 < k) :
    ∃ v a' f', spec_source_pick.f k l a f n = some (v, a', f') ∧ 0 ≤ v ∧ (v < n ∨ v = 0) ∧ Src l a' f' := by
  obtain ⟨hb, ha, hf, haf⟩ := h
  obtain ⟨k, rfl⟩ : ∃ m, k = m + 1 := ⟨k - 1, by omega⟩
  have stop : ∃ v a' f', spec_source_pick.j0 (k + 1) n true l a f = some (v, a', f') ∧ 0 ≤ v ∧ (v < n ∨ v = 0) ∧ Src l a' f' :=
    ⟨0, a, f, by simp [spec_source_pick.j0], by omega, Or.inr rfl, hb, ha, hf, haf⟩
  unfold spec_source_pick.f
  by_cases h1 : n ≤ 1
  · rw [if_pos h1]; exact stop
  rw [if_neg h1]
  by_cases h2 : f ≤ 0
  · rw [if_pos h2]; exact stop
  rw [if_neg h2]
  by_cases h3 : (l.length : Int) = 0
  · rw [show ((l.length : Int) == 0) = true from beq_iff_eq.mpr h3]; exact stop
  rw [show ((l.length : Int) == 0) = false from beq_eq_false_iff_ne.mpr h3]
  have hl : 0 < (l.length : Int) := by omega
  have m0 : 0 ≤ Int.tmod a (l.length : Int) := Int.tmod_nonneg _ ha
  have m1 : Int.tmod a (l.length : Int) < (l.length : Int) := Int.tmod_lt_of_pos _ hl
  have q0 : 0 ≤ Int.tdiv a (l.length : Int) := Int.tdiv_nonneg ha (by omega)
  have q1 : Int.tdiv a (l.length : Int) ≤ 8000 := by
    rw [Int.tdiv_eq_ediv_of_nonneg ha]
    have := Int.ediv_le_self (l.length : Int) ha
    omega
  have v0 := hb _ (rd_in m0 m1)
  simp only [spec_source_pick.j0]
  rw [if_neg (by simp), if_neg h3, if_pos m0, if_pos m1]
  generalize Int.tdiv a (l.length : Int) = q at *
  generalize rd l (Int.tmod a (l.length : Int)) = x at *
  rw [w64 (n := a + 1) (by omega) (by omega), w64 (n := f - 1) (by omega) (by omega), w64 (n := x) (by omega) (by omega),
    w64 (n := q) (by omega) (by omega), w64 (n := q * 31) (by omega) (by omega), w64 (n := x + q * 31) (by omega) (by omega)]
  by_cases h4 : n > 256
  · have m0' : 0 ≤ Int.tmod (a + 1) (l.length : Int) := Int.tmod_nonneg _ (by omega)
    have m1' : Int.tmod (a + 1) (l.length : Int) < (l.length : Int) := Int.tmod_lt_of_pos _ hl
    have v1 := hb _ (rd_in m0' m1')
    generalize rd l (Int.tmod (a + 1) (l.length : Int)) = y at *
    rw [if_pos h4, if_pos m0', if_pos m1', if_neg (by omega), w64 (n := y) (by omega) (by omega),
      w64 (n := (x + q * 31) * 256) (by omega) (by omega), w64 (n := (x + q * 31) * 256 + y) (by omega) (by omega),
      w64 (n := a + 1 + 1) (by omega) (by omega)]
    exact ⟨_, _, _, rfl, Int.tmod_nonneg _ (by omega), Or.inl (Int.tmod_lt_of_pos _ (by omega)), hb, by omega, by omega, by omega⟩
  · rw [if_neg h4, if_neg (by omega)]
    exact ⟨_, _, _, rfl, Int.tmod_nonneg _ (by omega), Or.inl (Int.tmod_lt_of_pos _ (by omega)), hb, by omega, by omega, by omega⟩

theorem src_new {l : List Int} (h : ∀ x ∈ l, (Lit.int .u8 x).wf = true) : Src l 0 4000 := by
  refine ⟨fun x hx => ?_, by omega, by omega, by omega⟩
  have := h x hx
  simp only [Lit.wf, IntKind.min, IntKind.max, IntKind.signed, IntKind.bits, Bool.and_eq_true, decide_eq_true_eq] at this
  simp at this
  omega

theorem one_tells {l : List Int} {a f : Int} (l1 : List Int) (hl : l1 ≠ []) (h : Src l a f) (k : Nat) (hk : 0 < k) :
    ∃ v a' f', spec_source_one.f k l a f l1 = some (v, a', f') ∧ v ∈ l1 ∧ Src l a' f' := by
  obtain ⟨v, a', f', he, h0, h1, hs⟩ := pick_tells (l1.length : Int) h k hk
  have hp : 0 < (l1.length : Int) := by
    have := List.length_pos_iff.mpr hl
    omega
  have hv : v < (l1.length : Int) := by omega
  refine ⟨rd l1 v, a', f', ?_, rd_in h0 hv, hs⟩
  unfold spec_source_one.f
  rw [he]; simp only [Option.bind_some]
  rw [if_pos h0, if_pos hv]

theorem rarely_tells {l : List Int} {a f : Int} (h : Src l a f) (k : Nat) (hk : 0 < k) : ∃ v a' f', spec_source_rarely.f k l a f = some (v, a', f') ∧ Src l a' f' := by
  obtain ⟨v, a', f', he, -, -, hs⟩ := pick_tells 40 h k hk
  refine ⟨(v == 1), a', f', ?_, hs⟩
  unfold spec_source_rarely.f
  rw [he]; simp only [Option.bind_some]
theorem slots_l {l : List Int} : ∀ (n k : Nat) (acc : List S51) (a f : Int), Src l a f → n + 1 < k → acc.length + n ≤ 1000 → ∃ r a' f', spec_source_slots.l0 k acc (n : Int) l a f = some (r, a', f') ∧ r.length ≤ acc.length + n + 1 ∧ Src l a' f' := by
  intro n
  induction n with
  | zero =>
    intro k acc a f h hk hn
    obtain ⟨k, rfl⟩ : ∃ m, k = m + 1 := ⟨k - 1, by omega⟩
    simp only [spec_source_slots.l0]
    rw [if_neg (by omega)]
    obtain ⟨v, a1, f1, e1, s1⟩ := rarely_tells h k (by omega)
    rw [e1]; simp only [Option.bind_some]
    cases v with
    | true =>
      obtain ⟨u, a2, f2, e2, -, s2⟩ := one_tells [-1, 4] (by simp) s1 k (by omega)
      rw [if_pos rfl, e2]; simp only [Option.bind_some]
      rw [if_pos (by omega)]
      exact ⟨_, _, _, rfl, by simp, s2⟩
    | false =>
      rw [if_neg (by simp)]
      exact ⟨_, _, _, rfl, by omega, s1⟩
  | succ n ih =>
    intro k acc a f h hk hn
    obtain ⟨k, rfl⟩ : ∃ m, k = m + 1 := ⟨k - 1, by omega⟩
    simp only [spec_source_slots.l0]
    rw [if_pos (by omega)]
    obtain ⟨u1, a1, f1, e1, -, s1⟩ := one_tells [0, 0, 1, 2, 3] (by simp) h k (by omega)
    rw [e1]; simp only [Option.bind_some]
    obtain ⟨u2, a2, f2, e2, -, s2⟩ := one_tells [0, 0, 1, 3, 4, 9, 103] (by simp) s1 k (by omega)
    rw [e2]; simp only [Option.bind_some]
    rw [if_pos (by omega), w64 (by omega) (by omega), show ((n + 1 : Nat) : Int) - 1 = (n : Int) by omega]
    obtain ⟨r, a', f', er, hr, sr⟩ := ih k (acc ++ [⟨u1, u2⟩]) a2 f2 s2 (by omega) (by simp; omega)
    exact ⟨r, a', f', er, by simp at hr; omega, sr⟩
theorem slots_tells {l : List Int} {a f : Int} (h : Src l a f) (k : Nat) (hk : 30 < k) : ∃ r a' f', spec_source_slots.f k l a f = some (r, a', f') ∧ r.length ≤ 30 ∧ Src l a' f' := by
  unfold spec_source_slots.f
  obtain ⟨v1, a1, f1, e1, p1, q1, s1⟩ := pick_tells 22 h k (by omega)
  rw [e1]; simp only [Option.bind_some]
  obtain ⟨v2, a2, f2, e2, m2, s2⟩ := one_tells [0, 1, 2, 3, v1] (by simp) s1 k (by omega)
  rw [e2]; simp only [Option.bind_some]
  have hv : 0 ≤ v2 ∧ v2 ≤ 21 := by simp at m2; omega
  obtain ⟨r, a3, f3, e3, h3, s3⟩ := slots_l v2.toNat k ([] : List S51) a2 f2 s2 (by omega) (by simp; omega)
  rw [show ((v2.toNat : Nat) : Int) = v2 by omega] at e3
  exact ⟨r, a3, f3, e3, by simp at h3; omega, s3⟩

theorem placeOrder_draw {l : List Int} (h : Src l 0 4000) (k : Nat) (hk : 30 < k) : ∃ r, spec_DrawPlaceOrder.f k l = some r ∧ r.1.length ≤ 60 ∧ r.2.length ≤ 60 := by
  unfold spec_DrawPlaceOrder.f spec_newSource.f
  simp only [bsome]
  obtain ⟨r1, a1, f1, e1, h1, s1⟩ := slots_tells h k hk
  rw [e1]; simp only [bsome]
  obtain ⟨r2, a2, f2, e2, h2, s2⟩ := slots_tells s1 k hk
  rw [e2]; simp only [bsome]
  obtain ⟨v3, a3, f3, e3, -, -, s3⟩ := pick_tells 2 s2 k (by omega)
  rw [e3]; simp only [bsome]
  by_cases hv : v3 = 0
  · rw [if_pos hv, w64 (by omega) (by omega)]
    obtain ⟨v4, a4, f4, e4, p4, q4, s4⟩ := pick_tells ((r1.length : Int) + 1) s3 k (by omega)
    rw [e4]; simp only [bsome]
    rw [if_pos p4, if_pos (by omega), if_pos (show ([] : List S51).length + (r1.take v4.toNat).length < 8796093022208 from by rw [List.length_nil, List.length_take]; omega), w64 (by omega) (by omega)]
    obtain ⟨v5, a5, f5, e5, p5, q5, s5⟩ := pick_tells ((r2.length : Int) + 1) s4 k (by omega)
    rw [e5]; simp only [bsome]
    rw [if_pos p5, if_pos (by omega), if_pos (show (([] : List S51) ++ r1.take v4.toNat).length + (r2.take v5.toNat).length < 8796093022208 from by rw [List.nil_append, List.length_take, List.length_take]; omega)]
    refine ⟨_, rfl, by show r1.length ≤ 60; omega, ?_⟩
    show (([] : List S51) ++ r1.take v4.toNat ++ r2.take v5.toNat).length ≤ 60
    rw [List.nil_append, List.length_append, List.length_take, List.length_take]; omega
  · rw [if_neg hv]
    exact ⟨_, rfl, by show r1.length ≤ 60; omega, by show r2.length ≤ 60; omega⟩

/-- Is a place another one or below it? -/
def und (a b : List S51) : Bool := decide (b.length ≤ a.length) && (cmp (a.take b.length) b == 0)
theorem impl_und_at (a b : List S51) (ha : a.length ≤ 4611686018427387904) (hb : b.length ≤ 4611686018427387904) (k : Nat) (hk : b.length < k) : impl_placeUnder.f k a b = some (und a b) := by
  unfold impl_placeUnder.f und
  by_cases h : (a.length : Int) ≥ (b.length : Int)
  · rw [if_pos h, if_pos (by omega), if_pos h, impl_cmp_at _ _ hb k (by omega), decide_eq_true (by omega : b.length ≤ a.length)]
    simp
  · rw [if_neg h, decide_eq_false (by omega : ¬ b.length ≤ a.length)]; rfl
theorem impl_under_at (a b : List S51) (ha : a.length ≤ 4611686018427387904) (hb : b.length ≤ 4611686018427387904) (k : Nat) (hk : b.length < k) (hk' : a.length < k) : impl_PlaceUnder.f k a b = some (plOk a && (plOk b && und a b)) := by
  unfold impl_PlaceUnder.f
  simp only [impl_place_at a ha k hk', impl_place_at b hb k hk, impl_und_at a b ha hb k hk, Option.bind_some]
  by_cases h0 : plOk a = true <;> by_cases h1 : plOk b = true <;> simp [h0, h1]
theorem und_iff {a b : List S51} : und a b = true ↔ a.take b.length = b := by
  unfold und
  rw [Bool.and_eq_true, decide_eq_true_eq, beq_iff_eq]
  constructor
  · rintro ⟨_, h⟩; exact cmp_zero h
  · intro h
    refine ⟨?_, by rw [h]; exact cmp_refl b⟩
    have := congrArg List.length h
    simp at this; omega
theorem und_take {a b : List S51} (h : und a b = true) (n : Nat) (hn : n ≤ b.length) : und a (b.take n) = true := by
  rw [und_iff] at h ⊢
  rw [← h]
  have hl : b.length ≤ a.length := by have := congrArg List.length h; simp at this; omega
  simp only [List.take_take, List.length_take]
  congr 1; omega
theorem plOk_take {a : List S51} (h : plOk a = true) (n : Nat) : plOk (a.take n) = true := by
  unfold plOk at h ⊢
  rw [Bool.and_eq_true, decide_eq_true_eq] at h ⊢
  refine ⟨?_, by simp; omega⟩
  rw [List.all_eq_true] at h ⊢
  exact fun x hx => h.1 x (List.mem_of_mem_take hx)

theorem spec_und_at (a b : List S51) (ha : a.length ≤ 4611686018427387904) (hb : b.length ≤ 4611686018427387904) (k : Nat) (hk : 3 * b.length + 2 ≤ k) : spec_under.f k a b = some (und a b) := by
  unfold spec_under.f und
  by_cases h : (a.length : Int) ≥ (b.length : Int)
  · rw [if_pos h, if_pos (by omega), if_pos h, spec_cmp_at _ _ (by simp; omega) hb k (by omega), decide_eq_true (by omega : b.length ≤ a.length)]
    simp
  · rw [if_neg h, decide_eq_false (by omega : ¬ b.length ≤ a.length)]; rfl
theorem spec_under_at (a b : List S51) (ha : a.length ≤ 4611686018427387904) (hb : b.length ≤ 4611686018427387904) (k : Nat) (hk : 3 * b.length + 2 ≤ k) (hk' : a.length < k) : spec_PlaceUnder.f k a b = some (plOk a && (plOk b && und a b)) := by
  unfold spec_PlaceUnder.f
  simp only [spec_place_at a ha k hk', spec_place_at b hb k (by omega), spec_und_at a b ha hb k hk, Option.bind_some]
  by_cases h0 : plOk a = true <;> by_cases h1 : plOk b = true <;> simp [h0, h1]

theorem FnPlaceUnder : laws_FnPlaceUnder.Pure := by
  intro l _ _ hl
  obtain ⟨k, hk⟩ : ∃ k : Nat, k = 400 := ⟨_, rfl⟩
  refine ⟨k, ?_⟩
  unfold laws_FnPlaceUnder.f spec_DrawPlaceUnder.f
  by_cases hlen : (l.length : Int) > 1048576
  · rw [if_pos hlen]
  rw [if_neg hlen]
  obtain ⟨⟨a, b⟩, hr, ha, hb⟩ := placeOrder_draw (src_new hl) k (by omega)
  simp only at ha hb
  rw [hr]
  simp only [Option.bind_some, impl_under_at a b (by omega) (by omega) k (by omega) (by omega), spec_under_at a b (by omega) (by omega) k (by omega) (by omega), beq_self_eq_true, if_true]
  by_cases h : (plOk a && (plOk b && und a b)) = true
  · rw [if_pos h]
    by_cases hz : (b.length : Int) = 0
    · rw [if_pos hz]
    rw [if_neg hz, w64 (by omega) (by omega), if_pos (by omega), if_pos (by omega)]
    rw [Bool.and_eq_true, Bool.and_eq_true] at h
    have hlt : (b.take ((b.length : Int) - 1).toNat).length ≤ b.length := by simp
    rw [impl_under_at a _ (by omega) (by omega) k (by omega) (by omega), h.1, plOk_take h.2.1, und_take h.2.2 _ (by omega)]
    rfl
  · rw [if_neg h]

end Go.Proofs.Ytjpjnhcdlfjimaa.Pure
