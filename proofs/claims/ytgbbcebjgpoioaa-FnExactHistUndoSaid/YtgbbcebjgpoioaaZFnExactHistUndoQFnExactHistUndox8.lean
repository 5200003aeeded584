/- Walks (lines of the print; no condition). -/
import Derived.Test.YtgbbcebjgpoioaaZFnExactHistUndoQFnExactHistUndox7
namespace Go.Proofs.Ytgbbcebjgpoioaa.PFnExactHistUndo
open Go.RowKit Go.Proofs.YtgbbcebjgpoioaaW.PrintWords Go.Proofs.YtgbbcebjgpoioaaW.PrintLast Go.Proofs.YtgbbcebjgpoioaaW.PrintMore
attribute [local go_sem] max2_int min2_int max_two min_two max_three min_three max_four min_four
set_option linter.unusedVariables false
set_option linter.unusedSimpArgs false
def spec_validValues.l0 : Nat → List (S98) → Int → Option (Bool)
 | 0, _, _ => none
 | k + 1, x0, x3 => if x3 < (x0.length : Int) then (if 0 ≤ x3 then ((spec_validValue.f k ((rd_T98 x0 x3).f0) ((rd_T98 x0 x3).f1) ((rd_T98 x0 x3).f2)).bind fun aA => (if aA = true then (spec_validValues.l0 k x0 (wrap64 (x3 + 1))) else (some false))) else (none)) else (some true)
def spec_validValues.f (k : Nat) (l0 : List (S98)) : Option (Bool) := spec_validValues.l0 k l0 0
set_option maxHeartbeats 8000000 in
set_option maxRecDepth 100000 in
theorem spec_validValues.calls (k : Nat) (A0 : Option Addr) (c0 : Nat) (l0 : List (S98)) (r : Bool) (w : World) (aK : Kd.C k98 w A0 l0.length l0) (hc0 : l0.length ≤ c0) (h : spec_validValues.f k l0 = some r) :
  Calls Try.prog 76 #[.slice A0 l0.length c0] w fun e w' => e = .returned (.bool r) ∧ Below w.heap.size w w' := by
 have aO := Try.underlying98; have aL := A_ aK; have aQ := A_ hc0; clear aK hc0; have HB := A_ (Below.refl w.heap.size w); have H := h; unfold spec_validValues.f at H; clear h; have H' := A_ H; clear H
 go_enter Try.func76, Try.ntmps76
 go_wp2
 go_loopg [3] k (fun kq v3 w' => ∃ (aA : Int), v3 = .int .i64 aA ∧ Aside0 (spec_validValues.l0 kq l0 aA = some r) ∧ Aside0 (kq ≤ k) ∧ Aside0 (Below w.heap.size w w'))
 case atStart => exact ⟨(0), Z17, H', ⟨Nat.le_refl _⟩, ⟨Z1⟩⟩
 case round =>
  clear H'; obtain ⟨aA, rfl, HA, aM, HB⟩ := hrel
  cases gk with
  | zero => exact absurd HA.out (by simp [spec_validValues.l0])
  | succ k1 =>
   have H := HA.out; clear HA; simp only [spec_validValues.l0] at H
   by_cases c2 : aA < (l0.length : Int)
   ·rw [if_pos c2] at H
    have aI := dt c2; clear c2
    by_cases c3 : 0 ≤ aA
    ·rw [if_pos c3] at H
     have aP := dt c3; clear c3; replace H := bS H; obtain ⟨aJ, aN, H⟩ := H
     try dsimp only at H
     have A4 := A_ aN; clear aN
     by_cases c5 : aJ = true
     ·subst c5
      rw [if_pos rfl] at H; have H' := A_ H; clear H; have aE : 0 ≤ (aA : Int) := odt; have aF : aA < (l0.length : Int) := odt; obtain ⟨aH, aG, aB, aC, aD⟩ := at_T98 aL.out aA aE aF; cases aG; replace aB := ZC HB.out aB; replace aC := ZC HB.out aC; replace aD := ZC HB.out aD; replace aE := eq_true aE; replace aF := eq_true aF
      go_wp2_with (first | ((with_reducible refine gate_callee (f := 91) rfl ?_); refine gL 14 Try.func91 #[.agg #[.int .i64 ((rd_T98 l0 aA).f0), .int .i64 ((rd_T98 l0 aA).f1), .string ((rd_T98 l0 aA).f2)]] ?_; (with_reducible refine (spec_validValue.calls k1 ((rd_T98 l0 aA).f0) ((rd_T98 l0 aA).f1) ((rd_T98 l0 aA).f2) true _ A4.out).mono ?_); rintro e w6 ⟨rfl, hb⟩; refine ⟨_, rfl, ?_⟩; replace HB := A_ (bst Z1 hb); (try clear hb)))
      go_roundg k1
      case measure => have := aM.out; omega
      case rel => exact ⟨(wrap64 (aA + 1)), Z17, H', ⟨by have := aM.out; omega⟩, ⟨Z1⟩⟩
     ·replace c5 := Bool.eq_false_iff.mpr c5
      subst c5; rw [if_neg (show ¬ (false = true) by decide)] at H; obtain rfl := Option.some.inj H; have aE : 0 ≤ (aA : Int) := odt; have aF : aA < (l0.length : Int) := odt; obtain ⟨aH, aG, aB, aC, aD⟩ := at_T98 aL.out aA aE aF; cases aG; replace aB := ZC HB.out aB; replace aC := ZC HB.out aC; replace aD := ZC HB.out aD; replace aE := eq_true aE; replace aF := eq_true aF
      go_wp2_with (first | ((with_reducible refine gate_callee (f := 91) rfl ?_); refine gL 14 Try.func91 #[.agg #[.int .i64 ((rd_T98 l0 aA).f0), .int .i64 ((rd_T98 l0 aA).f1), .string ((rd_T98 l0 aA).f2)]] ?_; (with_reducible refine (spec_validValue.calls k1 ((rd_T98 l0 aA).f0) ((rd_T98 l0 aA).f1) ((rd_T98 l0 aA).f2) false _ A4.out).mono ?_); rintro e w7 ⟨rfl, hb⟩; refine ⟨_, rfl, ?_⟩; replace HB := A_ (bst Z1 hb); (try clear hb)))
      go_ret
      exact ⟨Z7, Z1⟩
    ·exact Z51
   ·rw [if_neg c2] at H
    have aI := df c2; clear c2; obtain rfl := Option.some.inj H
    go_wp2
    go_ret
    exact ⟨Z7, Z1⟩
end Go.Proofs.Ytgbbcebjgpoioaa.PFnExactHistUndo
