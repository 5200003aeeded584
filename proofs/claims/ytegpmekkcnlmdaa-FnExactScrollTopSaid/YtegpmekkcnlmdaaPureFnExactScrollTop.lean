/- The pure statement of the law 'FnExactScrollTop': for all whole numbers high, view and top of 64 bits the law's function returns true, so the program's ScrollTop is the reference's (no other condition). -/
import Derived.Test.YtegpmekkcnlmdaaPFnExactScrollTopx1
namespace Go.Proofs.Ytegpmekkcnlmdaa.Pure
open Go Go.RowKit Go.Proofs.Ytegpmekkcnlmdaa.PFnExactScrollTop Go.Proofs.YtegpmekkcnlmdaaW.PrintWords Go.Proofs.YtegpmekkcnlmdaaW.PrintLast
set_option linter.unusedVariables false
set_option linter.unusedSimpArgs false

theorem within_at (a b c : Int) : impl_within.f a b c = some (decide (b ≤ a ∧ a ≤ c)) := by
  unfold impl_within.f
  by_cases h : a ≥ b
  · rw [if_pos h]; congr 1; exact decide_eq_decide.mpr ⟨fun x => ⟨h, x⟩, fun x => x.2⟩
  · rw [if_neg h]; congr 1; exact (decide_eq_false fun x => h x.1).symm

theorem inRange_at (a b c : Int) : spec_inRange.f a b c = some (decide (b ≤ a ∧ a ≤ c)) := by
  unfold spec_inRange.f
  by_cases h : a ≥ b
  · rw [if_pos h]; congr 1; exact decide_eq_decide.mpr ⟨fun x => ⟨h, x⟩, fun x => x.2⟩
  · rw [if_neg h]; congr 1; exact (decide_eq_false fun x => h x.1).symm

theorem mx_comm (a b : Int) : mx a b = mx b a := by unfold mx; split <;> split <;> omega
theorem scrollTop_same (a0 a1 a2 : Int) : impl_ScrollTop.f a0 a1 a2 = spec_ScrollTop.f a0 a1 a2 := by
  unfold impl_ScrollTop.f spec_ScrollTop.f spec_scrollTo.f
  simp only [within_at, inRange_at, Option.bind_some, mx_comm]
theorem FnExactScrollTop : laws_FnExactScrollTop.Pure := by
  intro a0 a1 a2 _ _ _
  unfold laws_FnExactScrollTop.f
  rw [scrollTop_same]
  unfold spec_ScrollTop.f spec_scrollTo.f
  simp only [inRange_at, Option.bind_some]
  split
  · split
    · split <;> simp
    · simp
  · simp

end Go.Proofs.Ytegpmekkcnlmdaa.Pure
