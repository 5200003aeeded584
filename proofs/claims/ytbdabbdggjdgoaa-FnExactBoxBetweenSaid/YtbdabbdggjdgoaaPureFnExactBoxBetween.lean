/- The pure statement of the law 'FnExactBoxBetween': for all boxes and all numbers of 64 bits the law's function returns true, so the program's BoxBetween is the reference's (no other condition). -/
import Derived.Test.YtbdabbdggjdgoaaPFnExactBoxBetweenx3
namespace Go.Proofs.Ytbdabbdggjdgoaa.Pure
open Go Go.RowKit Go.Proofs.Ytbdabbdggjdgoaa.PFnExactBoxBetween Go.Proofs.YtbdabbdggjdgoaaW.PrintWords Go.Proofs.YtbdabbdggjdgoaaW.PrintLast
set_option linter.unusedVariables false
set_option linter.unusedSimpArgs false

theorem w64 {n : Int} (h1 : -9223372036854775808 ≤ n) (h2 : n ≤ 9223372036854775807) : wrap64 n = n := by
  unfold wrap64; omega
theorem wnext {i n : Nat} (h : i < n) (hn : n ≤ 4611686018427387904) : wrap64 ((i : Int) + 1) = ((i + 1 : Nat) : Int) := by
  rw [w64 (by omega) (by omega)]; omega
/-- A loop that goes up to n, by rounds. -/
theorem loop_up {n : Nat} (Q : Nat → Nat → Prop) (last : ∀ k, Q (k + 1) n) (step : ∀ k i, i < n → Q k (i + 1) → Q (k + 1) i) : ∀ k i, i ≤ n → n - i < k → Q k i := by
  intro k
  induction k with
  | zero => intro i _ h; omega
  | succ k ih =>
    intro i hi hk
    by_cases h : i = n
    · subst h; exact last k
    · exact step k i (by omega) (ih (i + 1) (by omega) (by omega))
theorem drop_at {α : Type} {l : List α} {i : Nat} (d : α) (h : i < l.length) : l.drop i = l.getD ((i : Int)).toNat d :: l.drop (i + 1) := by
  rw [List.drop_eq_getElem_cons h, List.getD_eq_getElem?_getD]
  simp [h]
theorem range_at {i n : Nat} (h : i < n) : List.range' i (n - i) = i :: List.range' (i + 1) (n - (i + 1)) := by
  rw [show n - i = (n - (i + 1)) + 1 by omega, List.range'_succ]
theorem range_end (n : Nat) : List.range' n (n - n) = [] := by simp

theorem within_at (a b c : Int) : impl_within.f a b c = some (decide (b ≤ a ∧ a ≤ c)) := by
  unfold impl_within.f
  by_cases h : a ≥ b
  · rw [if_pos h]; congr 1; exact decide_eq_decide.mpr ⟨fun x => ⟨h, x⟩, fun x => x.2⟩
  · rw [if_neg h]; congr 1; exact (decide_eq_false fun x => h x.1).symm

theorem inRange_at (a b c : Int) : spec_inRange.f a b c = some (decide (b ≤ a ∧ a ≤ c)) := by
  unfold spec_inRange.f
  by_cases h : a ≥ b
  · rw [if_pos h]; congr 1; exact decide_eq_decide.mpr ⟨fun x => ⟨h, x⟩, fun x => x.2⟩
  · rw [if_neg h]; congr 1; exact (decide_eq_false fun x => h x.1).symm

def BOk (a0 a1 a2 a3 : Int) : Prop := (-100000 ≤ a0 ∧ a0 ≤ 100000) ∧ (-100000 ≤ a1 ∧ a1 ≤ 100000) ∧ (0 ≤ a2 ∧ a2 ≤ 100000) ∧ (0 ≤ a3 ∧ a3 ≤ 100000)
instance (a0 a1 a2 a3 : Int) : Decidable (BOk a0 a1 a2 a3) := by unfold BOk; exact inferInstance
theorem boxOk_at (a0 a1 a2 a3 : Int) : impl_boxOk.f a0 a1 a2 a3 = some (decide (BOk a0 a1 a2 a3)) := by
  unfold impl_boxOk.f BOk
  simp only [within_at, Option.bind_some]
  by_cases h0 : -100000 ≤ a0 ∧ a0 ≤ 100000 <;> by_cases h1 : -100000 ≤ a1 ∧ a1 ≤ 100000 <;> by_cases h2 : 0 ≤ a2 ∧ a2 ≤ 100000 <;> simp [h0, h1, h2]
theorem validBox_at (a0 a1 a2 a3 : Int) : spec_validBox.f a0 a1 a2 a3 = some (decide (BOk a0 a1 a2 a3)) := by
  unfold spec_validBox.f BOk
  simp only [inRange_at, Option.bind_some]
  by_cases h0 : -100000 ≤ a0 ∧ a0 ≤ 100000 <;> by_cases h1 : -100000 ≤ a1 ∧ a1 ≤ 100000 <;> by_cases h2 : 0 ≤ a2 ∧ a2 ≤ 100000 <;> simp [h0, h1, h2]

theorem stepOk_at (a b : Int) : impl_stepOk.f a b = some (decide ((1 ≤ b ∧ b ≤ 100) ∧ (0 ≤ a ∧ a ≤ b))) := by
  unfold impl_stepOk.f
  simp only [within_at, Option.bind_some]
  by_cases h : 1 ≤ b ∧ b ≤ 100 <;> simp [h]
theorem validStep_at (a b : Int) : spec_validStepOf.f a b = some (decide ((1 ≤ b ∧ b ≤ 100) ∧ (0 ≤ a ∧ a ≤ b))) := by
  unfold spec_validStepOf.f
  simp only [inRange_at, Option.bind_some]
  by_cases h : 1 ≤ b ∧ b ≤ 100 <;> simp [h]
theorem between_same (a b c d : Int) : impl_between.f a b c d = spec_between.f a b c d := rfl
theorem boxBetween_same (a0 a1 a2 a3 b0 b1 b2 b3 c d : Int) : impl_BoxBetween.f a0 a1 a2 a3 b0 b1 b2 b3 c d = spec_BoxBetween.f a0 a1 a2 a3 b0 b1 b2 b3 c d := by
  unfold impl_BoxBetween.f spec_BoxBetween.f impl_boxBetween.f spec_boxBetween.f
  simp only [boxOk_at, validBox_at, stepOk_at, validStep_at, between_same]
/-- A step of the way from a to b. -/
def btw (a b c d : Int) : Int := wrap64 (a + (wrap64 (Int.tdiv (wrap64 ((wrap64 (b - a)) * c)) d)))
theorem btw_at {a b c d : Int} (h : d ≠ 0) : spec_between.f a b c d = some (btw a b c d) := by
  unfold spec_between.f btw; rw [if_neg h]
theorem boxBetween_is (a0 a1 a2 a3 b0 b1 b2 b3 c d : Int) : spec_BoxBetween.f a0 a1 a2 a3 b0 b1 b2 b3 c d =
    some (if (BOk a0 a1 a2 a3 ∧ BOk b0 b1 b2 b3) ∧ (1 ≤ d ∧ d ≤ 100) ∧ (0 ≤ c ∧ c ≤ d) then (btw a0 b0 c d, btw a1 b1 c d, btw a2 b2 c d, btw a3 b3 c d) else (0, 0, 0, 0)) := by
  unfold spec_BoxBetween.f spec_boxBetween.f
  simp only [validBox_at, validStep_at, Option.bind_some]
  by_cases h0 : BOk a0 a1 a2 a3
  · by_cases h1 : BOk b0 b1 b2 b3
    · by_cases h2 : (1 ≤ d ∧ d ≤ 100) ∧ (0 ≤ c ∧ c ≤ d)
      · have hd : d ≠ 0 := by omega
        simp only [btw_at hd, Option.bind_some]
        simp [h0, h1, h2]
      · simp only [h0, h1, h2, decide_true, decide_false, if_true, and_false, if_false, Bool.false_eq_true]
    · simp [h0, h1]
  · simp [h0]

theorem eqBox_refl (a b c d : Int) : laws_eqBox.f a b c d a b c d = some true := by unfold laws_eqBox.f; simp

def G23 (x : (Int) × (Int) × (Int) × Int) : Prop := (Lit.int .i64 x.1).wf = true ∧ ((Lit.int .i64 x.2.1).wf = true ∧ ((Lit.int .i64 x.2.2.1).wf = true ∧ ((Lit.int .i64 x.2.2.2).wf = true)))
/-- The pure statement: what is known of each argument is that it is a value of its type. -/
def PureFnExactBoxBetween : Prop := ∀ (a0 : (Int) × (Int) × (Int) × Int) (a1 : (Int) × (Int) × (Int) × Int) (a2 : Int) (a3 : Int), G23 a0 → G23 a1 → (Lit.int .i64 a2).wf = true → (Lit.int .i64 a3).wf = true → laws_FnExactBoxBetween.f a0.1 a0.2.1 a0.2.2.1 a0.2.2.2 a1.1 a1.2.1 a1.2.2.1 a1.2.2.2 a2 a3 = some true

theorem FnExactBoxBetween : PureFnExactBoxBetween := by
  rintro ⟨a0, a1, a2, a3⟩ ⟨b0, b1, b2, b3⟩ c d - - - -
  unfold laws_FnExactBoxBetween.f laws_toBox.f
  simp only [Option.bind_some, boxBetween_same, boxBetween_is, eqBox_refl, if_true]

end Go.Proofs.Ytbdabbdggjdgoaa.Pure
