/- The pure statement of the law 'FnExactValTrue': for every value (of whatever numbers of 64 bits and whatever text) the law's function returns true, so the program's ValTrue is the reference's (no other condition). -/
import Derived.Test.YtbdabbdggjdgoaaQFnExactValTruex2
namespace Go.Proofs.Ytbdabbdggjdgoaa.Pure
open Go Go.RowKit Go.Proofs.Ytbdabbdggjdgoaa.PFnExactValTrue Go.Proofs.YtbdabbdggjdgoaaW.PrintWords Go.Proofs.YtbdabbdggjdgoaaW.PrintLast
set_option linter.unusedVariables false
set_option linter.unusedSimpArgs false

theorem w64 {n : Int} (h1 : -9223372036854775808 ≤ n) (h2 : n ≤ 9223372036854775807) : wrap64 n = n := by
  unfold wrap64; omega
theorem wnext {i n : Nat} (h : i < n) (hn : n ≤ 4611686018427387904) : wrap64 ((i : Int) + 1) = ((i + 1 : Nat) : Int) := by
  rw [w64 (by omega) (by omega)]; omega
/-- A loop that goes up to n, by rounds. -/
theorem loop_up {n : Nat} (Q : Nat → Nat → Prop) (last : ∀ k, Q (k + 1) n) (step : ∀ k i, i < n → Q k (i + 1) → Q (k + 1) i) : ∀ k i, i ≤ n → n - i < k → Q k i := by
  intro k
  induction k with
  | zero => intro i _ h; omega
  | succ k ih =>
    intro i hi hk
    by_cases h : i = n
    · subst h; exact last k
    · exact step k i (by omega) (ih (i + 1) (by omega) (by omega))
theorem drop_at {α : Type} {l : List α} {i : Nat} (d : α) (h : i < l.length) : l.drop i = l.getD ((i : Int)).toNat d :: l.drop (i + 1) := by
  rw [List.drop_eq_getElem_cons h, List.getD_eq_getElem?_getD]
  simp [h]
theorem range_at {i n : Nat} (h : i < n) : List.range' i (n - i) = i :: List.range' (i + 1) (n - (i + 1)) := by
  rw [show n - i = (n - (i + 1)) + 1 by omega, List.range'_succ]
theorem range_end (n : Nat) : List.range' n (n - n) = [] := by simp

theorem within_at (a b c : Int) : impl_within.f a b c = some (decide (b ≤ a ∧ a ≤ c)) := by
  unfold impl_within.f
  by_cases h : a ≥ b
  · rw [if_pos h]; congr 1; exact decide_eq_decide.mpr ⟨fun x => ⟨h, x⟩, fun x => x.2⟩
  · rw [if_neg h]; congr 1; exact (decide_eq_false fun x => h x.1).symm

theorem inRange_at (a b c : Int) : spec_inRange.f a b c = some (decide (b ≤ a ∧ a ≤ c)) := by
  unfold spec_inRange.f
  by_cases h : a ≥ b
  · rw [if_pos h]; congr 1; exact decide_eq_decide.mpr ⟨fun x => ⟨h, x⟩, fun x => x.2⟩
  · rw [if_neg h]; congr 1; exact (decide_eq_false fun x => h x.1).symm

def Good (c : Int) : Prop := (97 ≤ c ∧ c ≤ 122) ∨ (48 ≤ c ∧ c ≤ 57) ∨ c = 32
instance (c : Int) : Decidable (Good c) := by unfold Good; exact inferInstance
def goodsFrom (s : ByteArray) (i : Nat) : Bool := (List.range' i (s.size - i)).all fun j => decide (Good (bt s j))
theorem goods_at {s : ByteArray} {i : Nat} (h : i < s.size) : goodsFrom s i = (decide (Good (bt s i)) && goodsFrom s (i + 1)) := by
  unfold goodsFrom; rw [range_at h]; rfl
theorem goods_end (s : ByteArray) : goodsFrom s s.size = true := by
  unfold goodsFrom; rw [range_end]; rfl
def wordOk (s : ByteArray) : Bool := goodsFrom s 0 && decide (s.size ≤ 12)
theorem impl_word_l (s : ByteArray) (hs : s.size ≤ 4611686018427387904) : ∀ k i, i ≤ s.size → s.size - i < k → impl_word.l0 k s (i : Int) = some (goodsFrom s i && decide (s.size ≤ 12)) := by
  refine loop_up (fun k i => impl_word.l0 k s (i : Int) = some (goodsFrom s i && decide (s.size ≤ 12))) ?_ ?_
  · intro k
    simp only [impl_word.l0]
    rw [if_neg (by omega), goods_end, Bool.true_and]
    congr 1; exact decide_eq_decide.mpr (by omega)
  · intro k i hi ih
    have e : impl_word.l0 (k + 1) s (i : Int) = if Good (bt s i) then impl_word.l0 k s (wrap64 ((i : Int) + 1)) else some false := by
      simp only [impl_word.l0]
      rw [if_pos (by omega), if_pos (by omega)]
      by_cases hg : Good (bt s i)
      · rw [if_pos hg]; unfold Good at hg
        repeat' split
        all_goals first
          | rfl
          | (exfalso; omega)
      · rw [if_neg hg]; unfold Good at hg
        repeat' split
        all_goals first
          | rfl
          | (exfalso; omega)
    rw [e, wnext hi hs, ih, goods_at hi]
    by_cases hg : Good (bt s i) <;> simp [hg]
theorem impl_word_at (s : ByteArray) (hs : s.size ≤ 4611686018427387904) (k : Nat) (hk : s.size < k) : impl_word.f k s = some (wordOk s) := by
  have := impl_word_l s hs k 0 (by omega) (by omega)
  unfold impl_word.f wordOk
  exact this

theorem plain_at (c : Int) : spec_plainByte.f c = some (decide (Good c)) := by
  unfold spec_plainByte.f
  by_cases hg : Good c
  · rw [decide_eq_true hg]; unfold Good at hg
    repeat' split
    all_goals first
      | rfl
      | (congr 1; exact beq_iff_eq.mpr (by omega))
      | (exfalso; omega)
  · rw [decide_eq_false hg]; unfold Good at hg
    repeat' split
    all_goals first
      | rfl
      | (congr 1; exact beq_eq_false_iff_ne.mpr (by omega))
      | (exfalso; omega)
theorem spec_word_l (s : ByteArray) (hs : s.size ≤ 4611686018427387904) : ∀ k i, i ≤ s.size → s.size - i < k → spec_validWord.l0 k s (i : Int) = some (goodsFrom s i) := by
  refine loop_up (fun k i => spec_validWord.l0 k s (i : Int) = some (goodsFrom s i)) ?_ ?_
  · intro k
    simp only [spec_validWord.l0]
    rw [if_neg (by omega), goods_end]
  · intro k i hi ih
    simp only [spec_validWord.l0]
    rw [if_pos (by omega), if_pos (by omega), plain_at, goods_at hi]
    simp only [Option.bind_some, wnext hi hs, ih]
    by_cases hg : Good (bt s i) <;> simp [hg]
theorem spec_word_at (s : ByteArray) (hs : s.size ≤ 4611686018427387904) (k : Nat) (hk : s.size < k) : spec_validWord.f k s = some (wordOk s) := by
  have := spec_word_l s hs k 0 (by omega) (by omega)
  unfold spec_validWord.f wordOk
  by_cases h : (s.size : Int) > 12
  · rw [if_pos h, show decide (s.size ≤ 12) = false from decide_eq_false (by omega), Bool.and_false]
  · rw [if_neg h, show decide (s.size ≤ 12) = true from decide_eq_true (by omega), Bool.and_true]; exact this

def vOk (a b : Int) (s : ByteArray) : Bool :=
  if a = 0 then (if b = 0 then s.toList == ([] : List UInt8) else false)
  else if a = 1 then (if -1000 ≤ b ∧ b ≤ 1000 then s.toList == ([] : List UInt8) else false)
  else if a = 2 then (if b = 0 then wordOk s else false) else false
theorem impl_valOk_at (a b : Int) (s : ByteArray) (hs : s.size ≤ 4611686018427387904) (k : Nat) (hk : s.size < k) : impl_ValOk.f k a b s = some (vOk a b s) := by
  unfold impl_ValOk.f vOk
  simp only [within_at, impl_word_at s hs k hk, Option.bind_some, decide_eq_true_eq]
  repeat' split
  all_goals rfl

theorem spec_val_at (a b : Int) (s : ByteArray) (hs : s.size ≤ 4611686018427387904) (k : Nat) (hk : s.size < k) : spec_validValue.f k a b s = some (vOk a b s) := by
  unfold spec_validValue.f vOk
  simp only [inRange_at, spec_word_at s hs k hk, Option.bind_some, decide_eq_true_eq]
  repeat' split
  all_goals rfl

theorem szval_at (a b : Int) (s : ByteArray) (n : Int) (hn : 0 ≤ n ∧ n ≤ 1048576) (hs : s.size ≤ maxLen) : ∃ r, laws_szValue.f a b s n = some r ∧ (0 ≤ r → r = n - s.size) ∧ r ≤ n := by
  have hm : s.size ≤ 9223372036854775807 := hs
  unfold laws_szValue.f
  rw [w64 (by omega) (by omega)]
  by_cases h : n - (s.size : Int) < 0
  · rw [if_pos h]; exact ⟨_, rfl, by omega, by omega⟩
  · rw [if_neg h]; exact ⟨_, rfl, by omega, by omega⟩

def vTrue (a b : Int) (s : ByteArray) : Bool := vOk a b s && (decide (b ≠ 0) || s.toList != ([] : List UInt8))
theorem impl_true_at (a b : Int) (s : ByteArray) (hs : s.size ≤ 4611686018427387904) (k : Nat) (hk : s.size < k) : impl_ValTrue.f k a b s = some (vTrue a b s) := by
  unfold impl_ValTrue.f vTrue
  simp only [impl_valOk_at a b s hs k hk, Option.bind_some]
  by_cases h : vOk a b s = true
  · rw [if_pos h, h, Bool.true_and]
    unfold vOk at h
    by_cases ha : a = 0
    · subst ha
      rw [if_pos rfl] at h
      by_cases hb : b = 0
      · subst hb; simp at h; simp [h]
      · rw [if_neg hb] at h; cases h
    · rw [if_neg ha] at h
      by_cases ha1 : a = 1
      · subst ha1
        by_cases hb : b = 0
        · subst hb; simp at h; simp [h]
        · simp [hb]
      · rw [if_neg ha1] at h
        by_cases ha2 : a = 2
        · subst ha2
          by_cases hb : b = 0
          · subst hb; simp
          · simp [hb] at h
        · simp [ha2] at h
  · rw [if_neg h]; simp at h; simp [h]

theorem spec_truth_at (a b : Int) (s : ByteArray) : spec_truth.f a b s = some (decide (b ≠ 0) || s.toList != ([] : List UInt8)) := by
  unfold spec_truth.f
  by_cases hb : b = 0 <;> simp [hb]
theorem spec_true_at (a b : Int) (s : ByteArray) (hs : s.size ≤ 4611686018427387904) (k : Nat) (hk : s.size < k) : spec_ValTrue.f k a b s = some (vTrue a b s) := by
  unfold spec_ValTrue.f vTrue
  simp only [spec_val_at a b s hs k hk, spec_truth_at, Option.bind_some]
  by_cases h : vOk a b s = true
  · rw [if_pos h, h, Bool.true_and]
  · rw [if_neg h]; simp at h; simp [h]

def G32 (x : (Int) × (Int) × ByteArray) : Prop := (Lit.int .i64 x.1).wf = true ∧ ((Lit.int .i64 x.2.1).wf = true ∧ (x.2.2.size ≤ maxLen))
/-- The pure statement: what is known of each argument is that it is a value of its type. -/
def PureFnExactValTrue : Prop := ∀ (a0 : (Int) × (Int) × ByteArray), G32 a0 → ∃ k, laws_FnExactValTrue.f k a0.1 a0.2.1 a0.2.2 = some true

theorem FnExactValTrue : PureFnExactValTrue := by
  rintro ⟨a, b, s⟩ ⟨-, -, hs⟩
  obtain ⟨r, hr, h1, h2⟩ := szval_at a b s 1048576 (by omega) hs
  refine ⟨1048577, ?_⟩
  unfold laws_FnExactValTrue.f
  simp only [hr, Option.bind_some]
  by_cases h : r < 0
  · rw [if_pos h]
  rw [if_neg h]
  have hk : s.size < 1048577 := by have := h1 (by omega); omega
  unfold laws_toValue.f
  simp only [Option.bind_some, spec_true_at a b s (by omega) _ hk, impl_true_at a b s (by omega) _ hk]
  simp

end Go.Proofs.Ytbdabbdggjdgoaa.Pure
