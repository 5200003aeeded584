/- The pure statement of the law 'FnExactBoxMeet': for all boxes the law's function returns true, so the program's BoxMeet is the reference's (no other condition). -/
import Derived.Test.YtbdabbdggjdgoaaPFnExactBoxMeetx2
namespace Go.Proofs.Ytbdabbdggjdgoaa.Pure
open Go Go.RowKit Go.Proofs.Ytbdabbdggjdgoaa.PFnExactBoxMeet Go.Proofs.YtbdabbdggjdgoaaW.PrintWords Go.Proofs.YtbdabbdggjdgoaaW.PrintLast
set_option linter.unusedVariables false
set_option linter.unusedSimpArgs false

theorem w64 {n : Int} (h1 : -9223372036854775808 ≤ n) (h2 : n ≤ 9223372036854775807) : wrap64 n = n := by
  unfold wrap64; omega
theorem wnext {i n : Nat} (h : i < n) (hn : n ≤ 4611686018427387904) : wrap64 ((i : Int) + 1) = ((i + 1 : Nat) : Int) := by
  rw [w64 (by omega) (by omega)]; omega
/-- A loop that goes up to n, by rounds. -/
theorem loop_up {n : Nat} (Q : Nat → Nat → Prop) (last : ∀ k, Q (k + 1) n) (step : ∀ k i, i < n → Q k (i + 1) → Q (k + 1) i) : ∀ k i, i ≤ n → n - i < k → Q k i := by
  intro k
  induction k with
  | zero => intro i _ h; omega
  | succ k ih =>
    intro i hi hk
    by_cases h : i = n
    · subst h; exact last k
    · exact step k i (by omega) (ih (i + 1) (by omega) (by omega))
theorem drop_at {α : Type} {l : List α} {i : Nat} (d : α) (h : i < l.length) : l.drop i = l.getD ((i : Int)).toNat d :: l.drop (i + 1) := by
  rw [List.drop_eq_getElem_cons h, List.getD_eq_getElem?_getD]
  simp [h]
theorem range_at {i n : Nat} (h : i < n) : List.range' i (n - i) = i :: List.range' (i + 1) (n - (i + 1)) := by
  rw [show n - i = (n - (i + 1)) + 1 by omega, List.range'_succ]
theorem range_end (n : Nat) : List.range' n (n - n) = [] := by simp

theorem within_at (a b c : Int) : impl_within.f a b c = some (decide (b ≤ a ∧ a ≤ c)) := by
  unfold impl_within.f
  by_cases h : a ≥ b
  · rw [if_pos h]; congr 1; exact decide_eq_decide.mpr ⟨fun x => ⟨h, x⟩, fun x => x.2⟩
  · rw [if_neg h]; congr 1; exact (decide_eq_false fun x => h x.1).symm

theorem inRange_at (a b c : Int) : spec_inRange.f a b c = some (decide (b ≤ a ∧ a ≤ c)) := by
  unfold spec_inRange.f
  by_cases h : a ≥ b
  · rw [if_pos h]; congr 1; exact decide_eq_decide.mpr ⟨fun x => ⟨h, x⟩, fun x => x.2⟩
  · rw [if_neg h]; congr 1; exact (decide_eq_false fun x => h x.1).symm

def BOk (a0 a1 a2 a3 : Int) : Prop := (-100000 ≤ a0 ∧ a0 ≤ 100000) ∧ (-100000 ≤ a1 ∧ a1 ≤ 100000) ∧ (0 ≤ a2 ∧ a2 ≤ 100000) ∧ (0 ≤ a3 ∧ a3 ≤ 100000)
instance (a0 a1 a2 a3 : Int) : Decidable (BOk a0 a1 a2 a3) := by unfold BOk; exact inferInstance
theorem boxOk_at (a0 a1 a2 a3 : Int) : impl_boxOk.f a0 a1 a2 a3 = some (decide (BOk a0 a1 a2 a3)) := by
  unfold impl_boxOk.f BOk
  simp only [within_at, Option.bind_some]
  by_cases h0 : -100000 ≤ a0 ∧ a0 ≤ 100000 <;> by_cases h1 : -100000 ≤ a1 ∧ a1 ≤ 100000 <;> by_cases h2 : 0 ≤ a2 ∧ a2 ≤ 100000 <;> simp [h0, h1, h2]
theorem validBox_at (a0 a1 a2 a3 : Int) : spec_validBox.f a0 a1 a2 a3 = some (decide (BOk a0 a1 a2 a3)) := by
  unfold spec_validBox.f BOk
  simp only [inRange_at, Option.bind_some]
  by_cases h0 : -100000 ≤ a0 ∧ a0 ≤ 100000 <;> by_cases h1 : -100000 ≤ a1 ∧ a1 ≤ 100000 <;> by_cases h2 : 0 ≤ a2 ∧ a2 ≤ 100000 <;> simp [h0, h1, h2]

theorem mx_comm (a b : Int) : mx a b = mx b a := by unfold mx; split <;> split <;> omega
theorem boxMeet_same (a0 a1 a2 a3 b0 b1 b2 b3 : Int) : impl_BoxMeet.f a0 a1 a2 a3 b0 b1 b2 b3 = spec_BoxMeet.f a0 a1 a2 a3 b0 b1 b2 b3 := by
  unfold impl_BoxMeet.f spec_BoxMeet.f impl_boxMeet.f spec_meet.f
  simp only [boxOk_at, validBox_at, mx_comm 0]
/-- What two segments have in common. -/
def seg (a c b d : Int) : Int := mx (mn (a + c) (b + d) - mx a b) 0
theorem boxMeet_is (a0 a1 a2 a3 b0 b1 b2 b3 : Int) : impl_BoxMeet.f a0 a1 a2 a3 b0 b1 b2 b3 =
    some (if BOk a0 a1 a2 a3 ∧ BOk b0 b1 b2 b3 then (mx a0 b0, mx a1 b1, seg a0 a2 b0 b2, seg a1 a3 b1 b3) else (0, 0, 0, 0)) := by
  unfold impl_BoxMeet.f impl_boxMeet.f
  simp only [boxOk_at, Option.bind_some]
  by_cases h0 : BOk a0 a1 a2 a3
  · by_cases h1 : BOk b0 b1 b2 b3
    · simp only [h0, h1, decide_true, if_true, and_self]
      obtain ⟨p0, p1, p2, p3⟩ := h0
      obtain ⟨q0, q1, q2, q3⟩ := h1
      rw [w64 (n := a0 + a2) (by omega) (by omega), w64 (n := b0 + b2) (by omega) (by omega), w64 (n := a1 + a3) (by omega) (by omega), w64 (n := b1 + b3) (by omega) (by omega)]
      have m0 : -200000 ≤ mn (a0 + a2) (b0 + b2) - mx a0 b0 ∧ mn (a0 + a2) (b0 + b2) - mx a0 b0 ≤ 300000 := by unfold mn mx; split <;> split <;> omega
      have m1 : -200000 ≤ mn (a1 + a3) (b1 + b3) - mx a1 b1 ∧ mn (a1 + a3) (b1 + b3) - mx a1 b1 ≤ 300000 := by unfold mn mx; split <;> split <;> omega
      rw [w64 (by omega) (by omega), w64 (by omega) (by omega)]
      rfl
    · simp [h0, h1]
  · simp [h0]

theorem eqBox_refl (a b c d : Int) : laws_eqBox.f a b c d a b c d = some true := by unfold laws_eqBox.f; simp

def G23 (x : (Int) × (Int) × (Int) × Int) : Prop := (Lit.int .i64 x.1).wf = true ∧ ((Lit.int .i64 x.2.1).wf = true ∧ ((Lit.int .i64 x.2.2.1).wf = true ∧ ((Lit.int .i64 x.2.2.2).wf = true)))
/-- The pure statement: what is known of each argument is that it is a value of its type. -/
def PureFnExactBoxMeet : Prop := ∀ (a0 : (Int) × (Int) × (Int) × Int) (a1 : (Int) × (Int) × (Int) × Int), G23 a0 → G23 a1 → laws_FnExactBoxMeet.f a0.1 a0.2.1 a0.2.2.1 a0.2.2.2 a1.1 a1.2.1 a1.2.2.1 a1.2.2.2 = some true

theorem FnExactBoxMeet : PureFnExactBoxMeet := by
  rintro ⟨a0, a1, a2, a3⟩ ⟨b0, b1, b2, b3⟩ - -
  unfold laws_FnExactBoxMeet.f laws_toBox.f
  simp only [Option.bind_some, ← boxMeet_same, boxMeet_is, eqBox_refl, if_true]

end Go.Proofs.Ytbdabbdggjdgoaa.Pure
