/- The pure statement of the law 'FnExactPlaceOrder': for all lists of slots the law's function returns true, so the program's PlaceOrder is the reference's (no other condition). -/
import Derived.Test.YtjpjnhcdlfjimaaQFnExactPlaceOrderx5
namespace Go.Proofs.Ytjpjnhcdlfjimaa.Pure
open Go Go.RowKit Go.Proofs.Ytjpjnhcdlfjimaa.PFnExactPlaceOrder Go.Proofs.YtjpjnhcdlfjimaaW.PrintWords Go.Proofs.YtjpjnhcdlfjimaaW.PrintLast
set_option linter.unusedVariables false
set_option linter.unusedSimpArgs false

theorem w64 {n : Int} (h1 : -9223372036854775808 ≤ n) (h2 : n ≤ 9223372036854775807) : wrap64 n = n := by
  unfold wrap64; omega
theorem wnext {i n : Nat} (h : i < n) (hn : n ≤ 4611686018427387904) : wrap64 ((i : Int) + 1) = ((i + 1 : Nat) : Int) := by
  rw [w64 (by omega) (by omega)]; omega
/-- A loop that goes up to n, by rounds. -/
theorem loop_up {n : Nat} (Q : Nat → Nat → Prop) (last : ∀ k, Q (k + 1) n) (step : ∀ k i, i < n → Q k (i + 1) → Q (k + 1) i) : ∀ k i, i ≤ n → n - i < k → Q k i := by
  intro k
  induction k with
  | zero => intro i _ h; omega
  | succ k ih =>
    intro i hi hk
    by_cases h : i = n
    · subst h; exact last k
    · exact step k i (by omega) (ih (i + 1) (by omega) (by omega))
theorem drop_at {α : Type} {l : List α} {i : Nat} (d : α) (h : i < l.length) : l.drop i = l.getD ((i : Int)).toNat d :: l.drop (i + 1) := by
  rw [List.drop_eq_getElem_cons h, List.getD_eq_getElem?_getD]
  simp [h]
theorem range_at {i n : Nat} (h : i < n) : List.range' i (n - i) = i :: List.range' (i + 1) (n - (i + 1)) := by
  rw [show n - i = (n - (i + 1)) + 1 by omega, List.range'_succ]
theorem range_end (n : Nat) : List.range' n (n - n) = [] := by simp

theorem within_at (a b c : Int) : impl_within.f a b c = some (decide (b ≤ a ∧ a ≤ c)) := by
  unfold impl_within.f
  by_cases h : a ≥ b
  · rw [if_pos h]; congr 1; exact decide_eq_decide.mpr ⟨fun x => ⟨h, x⟩, fun x => x.2⟩
  · rw [if_neg h]; congr 1; exact (decide_eq_false fun x => h x.1).symm

theorem inRange_at (a b c : Int) : spec_inRange.f a b c = some (decide (b ≤ a ∧ a ≤ c)) := by
  unfold spec_inRange.f
  by_cases h : a ≥ b
  · rw [if_pos h]; congr 1; exact decide_eq_decide.mpr ⟨fun x => ⟨h, x⟩, fun x => x.2⟩
  · rw [if_neg h]; congr 1; exact (decide_eq_false fun x => h x.1).symm

def slotOk (x : S51) : Bool := decide (0 ≤ x.f0 ∧ x.f0 ≤ 3) && decide (0 ≤ x.f1 ∧ x.f1 ≤ 103)
theorem rd_slot {l : List S51} {i : Nat} (h : i < l.length) : l.drop i = rd_T51 l (i : Int) :: l.drop (i + 1) := drop_at z51 h
def plOk (l : List S51) : Bool := l.all slotOk && decide (l.length ≤ 20)

theorem validSlot_at (x : S51) : spec_validSlot.f x.f0 x.f1 = some (slotOk x) := by
  unfold spec_validSlot.f slotOk
  simp only [inRange_at, Option.bind_some]
  by_cases h : 0 ≤ x.f0 ∧ x.f0 ≤ 3 <;> simp [h]
theorem spec_place_l (l : List S51) (hl : l.length ≤ 4611686018427387904) : ∀ k i, i ≤ l.length → l.length - i < k → spec_validPlace.l0 k l (i : Int) = some ((l.drop i).all slotOk) := by
  refine loop_up (fun k i => spec_validPlace.l0 k l (i : Int) = some ((l.drop i).all slotOk)) ?_ ?_
  · intro k
    simp only [spec_validPlace.l0]
    rw [if_neg (by omega), List.drop_length]; rfl
  · intro k i hi ih
    simp only [spec_validPlace.l0]
    rw [if_pos (by omega), if_pos (by omega), validSlot_at, rd_slot hi]
    simp only [Option.bind_some, wnext hi hl, ih, List.all_cons]
    by_cases hg : slotOk (rd_T51 l (i : Int)) = true <;> simp [hg]
theorem spec_place_at (l : List S51) (hl : l.length ≤ 4611686018427387904) (k : Nat) (hk : l.length < k) : spec_validPlace.f k l = some (plOk l) := by
  have := spec_place_l l hl k 0 (by omega) (by omega)
  unfold spec_validPlace.f plOk
  by_cases h : (l.length : Int) > 20
  · rw [if_pos h, show decide (l.length ≤ 20) = false from decide_eq_false (by omega), Bool.and_false]
  · rw [if_neg h, show decide (l.length ≤ 20) = true from decide_eq_true (by omega), Bool.and_true]; exact this

theorem impl_place_l (l : List S51) (hl : l.length ≤ 4611686018427387904) : ∀ k i, i ≤ l.length → l.length - i < k → impl_PlaceOk.l0 k l l (l.length : Int) (i : Int) = some ((l.drop i).all slotOk && decide (l.length ≤ 20)) := by
  refine loop_up (fun k i => impl_PlaceOk.l0 k l l (l.length : Int) (i : Int) = some ((l.drop i).all slotOk && decide (l.length ≤ 20))) ?_ ?_
  · intro k
    simp only [impl_PlaceOk.l0]
    rw [if_neg (by omega), List.drop_length]
    simp only [List.all_nil, Bool.true_and]
    congr 1; exact decide_eq_decide.mpr (by omega)
  · intro k i hi ih
    simp only [impl_PlaceOk.l0]
    rw [if_pos (by omega), if_pos (by omega), if_pos (by omega), rd_slot hi]
    simp only [within_at, Option.bind_some, wnext hi hl, ih, List.all_cons, slotOk, decide_eq_true_eq]
    by_cases h0 : 0 ≤ (rd_T51 l (i : Int)).f0 ∧ (rd_T51 l (i : Int)).f0 ≤ 3
    · by_cases h1 : 0 ≤ (rd_T51 l (i : Int)).f1 ∧ (rd_T51 l (i : Int)).f1 ≤ 103
      · rw [if_pos h0, if_pos h1]; simp [h0, h1]
      · rw [if_pos h0, if_neg h1]; simp [h0, h1]
    · rw [if_neg h0]; simp [h0]
theorem impl_place_at (l : List S51) (hl : l.length ≤ 4611686018427387904) (k : Nat) (hk : l.length < k) : impl_PlaceOk.f k l = some (plOk l) := by
  have := impl_place_l l hl k 0 (by omega) (by omega)
  unfold impl_PlaceOk.f plOk
  exact this

/-- Which of two places stands ahead. -/
def cmp : List S51 → List S51 → Int
  | [], [] => 0
  | [], _ :: _ => -1
  | _ :: _, [] => 1
  | x :: xs, y :: ys => if x.f0 = y.f0 ∧ x.f1 = y.f1 then cmp xs ys else if x.f0 < y.f0 ∨ (x.f0 = y.f0 ∧ x.f1 < y.f1) then -1 else 1
theorem cmp_end {a b : List S51} (i : Nat) (h : i = min a.length b.length) : cmp (a.drop i) (b.drop i) = if (a.length : Int) < (b.length : Int) then -1 else if (a.length : Int) > (b.length : Int) then 1 else 0 := by
  by_cases h1 : a.length < b.length
  · rw [if_pos (by omega), List.drop_of_length_le (by omega : a.length ≤ i), drop_at z51 (by omega : i < b.length)]; rfl
  · rw [if_neg (by omega), List.drop_of_length_le (by omega : b.length ≤ i)]
    by_cases h2 : b.length < a.length
    · rw [if_pos (by omega), drop_at z51 (by omega : i < a.length)]; rfl
    · rw [if_neg (by omega), List.drop_of_length_le (by omega : a.length ≤ i)]; rfl
theorem cmp_next {a b : List S51} {i : Nat} (ha : i < a.length) (hb : i < b.length) : cmp (a.drop i) (b.drop i) =
    (if (rd_T51 a (i : Int)).f0 = (rd_T51 b (i : Int)).f0 ∧ (rd_T51 a (i : Int)).f1 = (rd_T51 b (i : Int)).f1 then cmp (a.drop (i + 1)) (b.drop (i + 1)) else
      if (rd_T51 a (i : Int)).f0 < (rd_T51 b (i : Int)).f0 ∨ ((rd_T51 a (i : Int)).f0 = (rd_T51 b (i : Int)).f0 ∧ (rd_T51 a (i : Int)).f1 < (rd_T51 b (i : Int)).f1) then -1 else 1) := by
  rw [rd_slot ha, rd_slot hb]; rfl
theorem cmp_refl (a : List S51) : cmp a a = 0 := by
  induction a with
  | nil => rfl
  | cons x xs ih => unfold cmp; rw [if_pos ⟨rfl, rfl⟩]; exact ih
theorem cmp_zero {a b : List S51} (h : cmp a b = 0) : a = b := by
  induction a generalizing b with
  | nil => cases b with
    | nil => rfl
    | cons y ys => simp [cmp] at h
  | cons x xs ih => cases b with
    | nil => simp [cmp] at h
    | cons y ys =>
      unfold cmp at h
      by_cases e : x.f0 = y.f0 ∧ x.f1 = y.f1
      · rw [if_pos e] at h
        rw [ih h]
        obtain ⟨x0, x1⟩ := x; obtain ⟨y0, y1⟩ := y
        obtain ⟨e0, e1⟩ := e
        simp only at e0 e1
        rw [e0, e1]
      · rw [if_neg e] at h; split at h <;> omega
theorem cmp_neg (a b : List S51) : cmp b a = - cmp a b := by
  induction a generalizing b with
  | nil => cases b <;> rfl
  | cons x xs ih => cases b with
    | nil => rfl
    | cons y ys =>
      unfold cmp
      by_cases e : x.f0 = y.f0 ∧ x.f1 = y.f1
      · rw [if_pos e, if_pos ⟨e.1.symm, e.2.symm⟩]; exact ih ys
      · rw [if_neg e, if_neg (fun q => e ⟨q.1.symm, q.2.symm⟩)]
        by_cases l : x.f0 < y.f0 ∨ (x.f0 = y.f0 ∧ x.f1 < y.f1)
        · rw [if_pos l, if_neg (by omega)]; rfl
        · rw [if_neg l, if_pos (by omega)]
theorem cmp_three (a b : List S51) : cmp a b = -1 ∨ cmp a b = 0 ∨ cmp a b = 1 := by
  induction a generalizing b with
  | nil => cases b <;> simp [cmp]
  | cons x xs ih => cases b with
    | nil => simp [cmp]
    | cons y ys =>
      unfold cmp
      split
      · exact ih ys
      · split <;> simp

theorem impl_cmp_l (a b : List S51) (hb : b.length ≤ 4611686018427387904) : ∀ k i, i ≤ min a.length b.length → min a.length b.length - i < k → impl_placeCmp.l0 k a b ((min a.length b.length : Nat) : Int) (i : Int) = some (cmp (a.drop i) (b.drop i)) := by
  refine loop_up (fun k i => impl_placeCmp.l0 k a b ((min a.length b.length : Nat) : Int) (i : Int) = some (cmp (a.drop i) (b.drop i))) ?_ ?_
  · intro k
    simp only [impl_placeCmp.l0]
    rw [if_neg (by omega), cmp_end _ rfl]
    repeat' split
    all_goals rfl
  · intro k i hi ih
    have ha' : i < a.length := by omega
    have hb' : i < b.length := by omega
    simp only [impl_placeCmp.l0]
    rw [if_pos (by omega), if_pos (by omega), if_pos (by omega), if_pos (by omega), wnext hi (by omega), ih, cmp_next ha' hb']
    generalize rd_T51 a (i : Int) = x
    generalize rd_T51 b (i : Int) = y
    by_cases e : x.f0 = y.f0 ∧ x.f1 = y.f1
    · rw [if_pos e, if_pos (by simp [e])]
    · rw [if_neg e, if_neg (by simpa using e)]
      by_cases l : x.f0 < y.f0 ∨ (x.f0 = y.f0 ∧ x.f1 < y.f1)
      · rw [if_pos l]
        repeat' split
        all_goals first
          | rfl
          | (exfalso; omega)
      · rw [if_neg l]
        repeat' split
        all_goals first
          | rfl
          | (exfalso; omega)
theorem impl_cmp_at (a b : List S51) (hb : b.length ≤ 4611686018427387904) (k : Nat) (hk : min a.length b.length < k) : impl_placeCmp.f k a b = some (cmp a b) := by
  have := impl_cmp_l a b hb k 0 (by omega) (by omega)
  unfold impl_placeCmp.f
  rw [show mn (a.length : Int) (b.length : Int) = ((min a.length b.length : Nat) : Int) by unfold mn; split <;> omega]
  exact this

theorem spec_cmp_l (a b : List S51) (hb : b.length ≤ 4611686018427387904) (ha : a.length ≤ 4611686018427387904) : ∀ d i k, min a.length b.length - i = d → i ≤ min a.length b.length → 3 * d + 2 ≤ k → spec_comparePlaces.l0 k a b (i : Int) = some (cmp (a.drop i) (b.drop i)) := by
  intro d
  induction d with
  | zero =>
    intro i k hd hi hk
    obtain ⟨k, rfl⟩ : ∃ m, k = m + 2 := ⟨k - 2, by omega⟩
    have he : i = min a.length b.length := by omega
    have hj : spec_comparePlaces.j1 (k + 1) a b (i : Int) false = some (cmp (a.drop i) (b.drop i)) := by
      simp only [spec_comparePlaces.j1]
      rw [if_neg (by simp), cmp_end i he]
      repeat' split
      all_goals rfl
    simp only [spec_comparePlaces.l0]
    by_cases h1 : (i : Int) < (a.length : Int)
    · rw [if_pos h1, decide_eq_false (by omega : ¬ (i : Int) < (b.length : Int))]; exact hj
    · rw [if_neg h1]; exact hj
  | succ d ih =>
    intro i k hd hi hk
    obtain ⟨k, rfl⟩ : ∃ m, k = m + 3 := ⟨k - 3, by omega⟩
    have ha' : i < a.length := by omega
    have hb' : i < b.length := by omega
    have hn := ih (i + 1) k (by omega) (by omega) (by omega)
    simp only [spec_comparePlaces.l0]
    rw [if_pos (by omega), decide_eq_true (by omega : (i : Int) < (b.length : Int))]
    simp only [spec_comparePlaces.j1]
    rw [if_pos trivial, if_pos (by omega), if_pos (by omega), if_pos (by omega), cmp_next ha' hb']
    simp only [spec_comparePlaces.j2]
    rw [wnext (n := b.length) hb' hb, hn]
    simp only [show (0 : Int) ≤ (i : Int) from by omega, show (i : Int) < (a.length : Int) from by omega, show (i : Int) < (b.length : Int) from by omega, if_true]
    generalize rd_T51 a (i : Int) = x
    generalize rd_T51 b (i : Int) = y
    by_cases e : x.f0 = y.f0 ∧ x.f1 = y.f1
    · obtain ⟨e0, e1⟩ := e
      simp [e0, e1]
    · rw [if_neg e]
      have hne : (!(x.f0 == y.f0) || !(x.f1 == y.f1)) = true := by
        rw [Bool.or_eq_true, Bool.not_eq_true', Bool.not_eq_true', beq_eq_false_iff_ne, beq_eq_false_iff_ne]
        by_cases h0 : x.f0 = y.f0
        · exact Or.inr fun h1 => e ⟨h0, h1⟩
        · exact Or.inl h0
      rw [hne]
      by_cases l : x.f0 < y.f0 ∨ (x.f0 = y.f0 ∧ x.f1 < y.f1)
      · rw [if_pos l]
        by_cases l0 : x.f0 < y.f0
        · simp [l0]
        · obtain ⟨e0, e1⟩ : x.f0 = y.f0 ∧ x.f1 < y.f1 := by omega
          simp [e0, e1]
      · rw [if_neg l]
        have l0 : ¬ x.f0 < y.f0 := by omega
        by_cases e0 : x.f0 = y.f0
        · have l1 : ¬ x.f1 < y.f1 := by omega
          simp [e0, l1]
        · simp [l0, e0]
theorem spec_cmp_at (a b : List S51) (ha : a.length ≤ 4611686018427387904) (hb : b.length ≤ 4611686018427387904) (k : Nat) (hk : 3 * min a.length b.length + 2 ≤ k) : spec_comparePlaces.f k a b = some (cmp a b) := by
  have := spec_cmp_l a b hb ha _ 0 k rfl (by omega) (by omega)
  unfold spec_comparePlaces.f
  exact this

def ord (a b : List S51) : Int := if plOk a = true then (if plOk b = true then cmp a b else 0) else 0
theorem impl_order_at (a b : List S51) (ha : a.length ≤ 4611686018427387904) (hb : b.length ≤ 4611686018427387904) (k : Nat) (hk : b.length < k) (hk' : a.length < k) : impl_PlaceOrder.f k a b = some (ord a b) := by
  unfold impl_PlaceOrder.f ord
  simp only [impl_place_at a ha k hk', impl_place_at b hb k hk, impl_cmp_at a b hb k (by omega), Option.bind_some]
  repeat' split
  all_goals rfl

theorem spec_order_at (a b : List S51) (ha : a.length ≤ 4611686018427387904) (hb : b.length ≤ 4611686018427387904) (k : Nat) (hk : 3 * b.length + 2 ≤ k) (hk' : a.length < k) : spec_PlaceOrder.f k a b = some (ord a b) := by
  unfold spec_PlaceOrder.f ord
  simp only [spec_place_at a ha k hk', spec_place_at b hb k (by omega), spec_cmp_at a b ha hb k (by omega), Option.bind_some]
  repeat' split
  all_goals rfl

def cSlot (x : S54) : S51 := ⟨x.f0, x.f1⟩
theorem rd_lslot {l : List S54} {i : Nat} (h : i < l.length) : l.drop i = rd_T54 l (i : Int) :: l.drop (i + 1) := drop_at z54 h
theorem set_mid {α : Type} (p : List α) (a b : α) (r : List α) (n : Nat) (h : n = p.length) : (p ++ a :: r).set n b = p ++ b :: r := by subst h; simp
theorem toSlotS_l (l : List S54) (hl : l.length ≤ 4611686018427387904) (z : S51) : ∀ k i, i ≤ l.length → l.length - i < k → ∀ p, p.length = i → laws_toSlotS.l0 k l (p ++ List.replicate (l.length - i) z) (i : Int) = some (p ++ (l.drop i).map cSlot) := by
  refine loop_up (fun k i => ∀ p, p.length = i → laws_toSlotS.l0 k l (p ++ List.replicate (l.length - i) z) (i : Int) = some (p ++ (l.drop i).map cSlot)) ?_ ?_
  · intro k p hp
    simp only [laws_toSlotS.l0]
    rw [if_neg (by omega)]; simp
  · intro k i hi ih p hp
    simp only [laws_toSlotS.l0, laws_toSlot.f]
    rw [if_pos (by omega), if_pos (by omega)]
    simp only [Option.bind_some]
    rw [if_pos (by simp; omega), show l.length - i = (l.length - (i + 1)) + 1 by omega, List.replicate_succ, set_mid _ _ _ _ _ (by omega), wnext hi hl]
    have := ih (p ++ [cSlot (rd_T54 l (i : Int))]) (by simp [hp])
    rw [List.append_assoc] at this
    rw [rd_lslot hi, List.map_cons, ← List.singleton_append, ← List.append_assoc p, List.append_assoc p]
    rw [List.append_assoc] at this
    exact this
theorem toSlotS_at (l : List S54) (hl : l.length ≤ 1048576) (k : Nat) (hk : l.length < k) : laws_toSlotS.f k l = some (l.map cSlot) := by
  unfold laws_toSlotS.f
  rw [if_pos (by omega), if_pos (by omega)]
  have := toSlotS_l l (by omega) z51 k 0 (by omega) (by omega) [] rfl
  simpa using this
theorem szSlotS_at (l : List S54) (n : Int) (hn : 0 ≤ n ∧ n ≤ 1048576) (hl : l.length ≤ maxLen) : ∃ r, laws_szSlotS.f l n = some r ∧ (0 ≤ r → r = n - l.length) ∧ r ≤ n := by
  have hm : l.length ≤ 9223372036854775807 := hl
  unfold laws_szSlotS.f
  rw [w64 (by omega) (by omega)]
  by_cases h : n - (l.length : Int) < 0
  · rw [if_pos h]; exact ⟨_, rfl, by omega, by omega⟩
  · rw [if_neg h]; exact ⟨_, rfl, by omega, by omega⟩

theorem eqSlot_refl (a b : Int) : laws_eqSlot.f a b a b = some true := by unfold laws_eqSlot.f; simp
theorem eqSlotS_l (l : List S51) (hl : l.length ≤ 4611686018427387904) : ∀ k i, i ≤ l.length → l.length - i < k → laws_eqSlotS.l0 k l l (i : Int) = some true := by
  refine loop_up (fun k i => laws_eqSlotS.l0 k l l (i : Int) = some true) ?_ ?_
  · intro k
    simp only [laws_eqSlotS.l0]
    rw [if_neg (by omega)]
  · intro k i hi ih
    simp only [laws_eqSlotS.l0]
    rw [if_pos (by omega), if_pos (by omega), if_pos (by omega), eqSlot_refl]
    simp only [Option.bind_some, wnext hi hl, ih, if_true]
theorem eqSlotS_refl (l : List S51) (hl : l.length ≤ 4611686018427387904) (k : Nat) (hk : l.length < k) : laws_eqSlotS.f k l l = some true := by
  unfold laws_eqSlotS.f
  rw [if_pos rfl]; exact eqSlotS_l l hl k 0 (by omega) (by omega)

def G54 (x : S54) : Prop := (Lit.int .i64 x.f0).wf = true ∧ ((Lit.int .i64 x.f1).wf = true)
/-- The pure statement: what is known of each argument is that it is a value of its type. -/
def PureFnExactPlaceOrder : Prop := ∀ (l0 : List (S54)) (l1 : List (S54)), l0.length ≤ maxLen → (∀ x ∈ l0, G54 x) → l1.length ≤ maxLen → (∀ x ∈ l1, G54 x) → ∃ k, laws_FnExactPlaceOrder.f k l0 l1 = some true

theorem FnExactPlaceOrder : PureFnExactPlaceOrder := by
  intro l m hl _ hm _
  obtain ⟨r, hr, h1, h2⟩ := szSlotS_at l 1048576 (by omega) hl
  refine ⟨3145740, ?_⟩
  unfold laws_FnExactPlaceOrder.f
  simp only [hr, Option.bind_some]
  by_cases h : r < 0
  · rw [if_pos h]
  rw [if_neg h]
  have hr1 := h1 (by omega)
  obtain ⟨r', hr', h1', h2'⟩ := szSlotS_at m r (by omega) hm
  simp only [hr', Option.bind_some]
  by_cases h' : r' < 0
  · rw [if_pos h']
  rw [if_neg h']
  have hr1' := h1' (by omega)
  have hk : l.length ≤ 1048576 := by omega
  have hk' : m.length ≤ 1048576 := by omega
  have ha : (l.map cSlot).length ≤ 1048576 := by simpa using hk
  have hb : (m.map cSlot).length ≤ 1048576 := by simpa using hk'
  simp only [toSlotS_at l hk 3145740 (by omega), toSlotS_at m hk' 3145740 (by omega), Option.bind_some]
  generalize l.map cSlot = a at *
  generalize m.map cSlot = b at *
  simp only [spec_order_at a b (by omega) (by omega) 3145740 (by omega) (by omega), impl_order_at a b (by omega) (by omega) 3145740 (by omega) (by omega), eqSlotS_refl a (by omega) 3145740 (by omega), eqSlotS_refl b (by omega) 3145740 (by omega), Option.bind_some, if_true]
  skip

end Go.Proofs.Ytjpjnhcdlfjimaa.Pure
