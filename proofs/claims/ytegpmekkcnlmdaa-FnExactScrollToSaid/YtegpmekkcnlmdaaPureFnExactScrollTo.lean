/- The pure statement of the law 'FnExactScrollTo': for all whole numbers view, top, from and many of 64 bits the law's function returns true, so the program's ScrollTo is the reference's (no other condition). -/
import Derived.Test.YtegpmekkcnlmdaaPFnExactScrollTox1
namespace Go.Proofs.Ytegpmekkcnlmdaa.Pure
open Go Go.RowKit Go.Proofs.Ytegpmekkcnlmdaa.PFnExactScrollTo Go.Proofs.YtegpmekkcnlmdaaW.PrintWords Go.Proofs.YtegpmekkcnlmdaaW.PrintLast
set_option linter.unusedVariables false
set_option linter.unusedSimpArgs false

theorem within_at (a b c : Int) : impl_within.f a b c = some (decide (b ≤ a ∧ a ≤ c)) := by
  unfold impl_within.f
  by_cases h : a ≥ b
  · rw [if_pos h]; congr 1; exact decide_eq_decide.mpr ⟨fun x => ⟨h, x⟩, fun x => x.2⟩
  · rw [if_neg h]; congr 1; exact (decide_eq_false fun x => h x.1).symm

theorem inRange_at (a b c : Int) : spec_inRange.f a b c = some (decide (b ≤ a ∧ a ≤ c)) := by
  unfold spec_inRange.f
  by_cases h : a ≥ b
  · rw [if_pos h]; congr 1; exact decide_eq_decide.mpr ⟨fun x => ⟨h, x⟩, fun x => x.2⟩
  · rw [if_neg h]; congr 1; exact (decide_eq_false fun x => h x.1).symm

theorem scrollTo_j (k : Nat) (a0 a1 a2 a3 : Int) (b : Bool) : impl_ScrollTo.j0 k a0 a1 a2 a3 b = spec_ScrollTo.j0 k a0 a1 a2 a3 b := by
  cases k <;> rfl
theorem scrollTo_same (k : Nat) (a0 a1 a2 a3 : Int) : impl_ScrollTo.f k a0 a1 a2 a3 = spec_ScrollTo.f k a0 a1 a2 a3 := by
  unfold impl_ScrollTo.f spec_ScrollTo.f
  simp only [within_at, inRange_at, Option.bind_some, scrollTo_j]
theorem scrollTo_some (a0 a1 a2 a3 : Int) : ∃ r, spec_ScrollTo.f 1 a0 a1 a2 a3 = some r := by
  unfold spec_ScrollTo.f
  simp only [inRange_at, Option.bind_some, spec_ScrollTo.j0]
  repeat' split
  all_goals exact ⟨_, rfl⟩
theorem FnExactScrollTo : laws_FnExactScrollTo.Pure := by
  intro a0 a1 a2 a3 _ _ _ _
  refine ⟨1, ?_⟩
  unfold laws_FnExactScrollTo.f
  rw [scrollTo_same]
  obtain ⟨r, hr⟩ := scrollTo_some a0 a1 a2 a3
  rw [hr]; simp

end Go.Proofs.Ytegpmekkcnlmdaa.Pure
