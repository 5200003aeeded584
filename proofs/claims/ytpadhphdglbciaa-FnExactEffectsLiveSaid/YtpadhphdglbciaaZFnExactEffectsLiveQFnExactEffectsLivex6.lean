/- Walks of the functions that the law 'FnExactEffectsLive' reaches, part 6: for each a Lean function and the proof that Go's comes to just its answer (lines of the print, under own names; no condition). -/
import Derived.Test.YtpadhphdglbciaaZFnExactEffectsLiveQFnExactEffectsLivex0
namespace Go.Proofs.Ytpadhphdglbciaa.PFnExactEffectsLive
open Go.RowKit Go.Proofs.YtpadhphdglbciaaW.PrintWords Go.Proofs.YtpadhphdglbciaaW.PrintLast Go.Proofs.YtpadhphdglbciaaW.PrintMore
attribute [local go_sem] max2_int min2_int max_two min_two max_three min_three max_four min_four
set_option linter.unusedVariables false
set_option linter.unusedSimpArgs false
def impl_placeCopy.f (l0 : List (S92)) : Option ((List (S92))) := if ([] : List (S92)).length + l0.length < 8796093022208 then (some (([] : List (S92)) ++ l0)) else (none)
set_option maxHeartbeats 8000000 in
set_option maxRecDepth 100000 in
theorem impl_placeCopy.calls (A0 : Option Addr) (c0 : Nat) (l0 : List (S92)) (r : List (S92)) (w : World) (hr0 : Kd.C k92 w A0 l0.length l0) (hc0 : l0.length ≤ c0) (h : impl_placeCopy.f l0 = some r) :
  Calls Try.prog 55 #[.slice A0 l0.length c0] w fun e w' => ∃ v0_ : Value, e = .returned (v0_) ∧ Kd.R k92 92 w' w.heap.size (fun _ => True) v0_ r ∧ Below w.heap.size w w' := by
 have HR0 := A_ hr0
 have HC0 := A_ hc0
 clear hr0 hc0
 have HB := A_ (Below.refl w.heap.size w)
 have H : (if ([] : List (S92)).length + l0.length < 8796093022208 then (some (([] : List (S92)) ++ l0)) else (none)) = some r := h
 clear h
 by_cases c2 : ([] : List (S92)).length + l0.length < 8796093022208
 ·rw [if_pos c2] at H
  have LMc2 := A_ c2
  clear c2
  obtain ⟨y193, hy193⟩ : ∃ y_ : List (S92), y_ = (([] : List (S92)) ++ l0) := ⟨_, rfl⟩
  replace H : (some y193) = some r := by first | (rw [hy193]; with_reducible exact H) | (have H2_ := (Option.bind_some _ _).symm.trans H; rw [hy193]; with_reducible exact H2_) | (have H2_ := (Option.bind_some _ _).symm.trans H; with_reducible exact H2_) | with_reducible exact H | (rw [hy193]; exact H) | exact H
  have Ny193 := A_ hy193
  clear hy193
  obtain rfl := Option.some.inj H
  go_enter Try.func55, Try.ntmps55
  go_wp2_with (first | ((with_reducible refine gate_builtin (b := .append) (xs := #[.const (.slice none 0 0), .tmp 3]) rfl ?_); at_builtin; refine Kd.R_append_rows k92 (w0 := w) w.heap.size rfl (.const (.slice none 0 0)) (.tmp 3) 43 92 (.agg #[(.int .i64 0), (.int .i64 0)]) 16 rfl Try.underlying43 info92 rfl (by decide) (by omega) (.slice none 0 0) ([] : List (S92)) l0 _ _ _ (fun _ => True) (fun _ => False) rfl rfl ?aO ?aR (fun _ _ h => h) (fun _ h => h.elim) ?aF ?aB ?aS ?aL ?_; (case aR => exact Z24 HR0.out); (case aB => exact Z0); (case aF => exact (fun _ _ => trivial)); (case aO => exact ((Kd.R_nil _ _ _ _ (fun _ => True)))); (case aS => exact (below_size Z0)); (case aL => have := LMc2.out; omega); intro v194 w3 ho hb hg hat; rw [← Ny193.out] at ho; have n0_ := A_ (hb); have n1_ := A_ (ho); clear HB; have HB := n0_; have HO195 := n1_; clear n0_ n1_; clear ho hb hg hat))
  go_ret
  exact ⟨_, Z14, Z27 HO195.out, Z0⟩
 ·rw [if_neg c2] at H
  exact absurd H (by simp)
end Go.Proofs.Ytpadhphdglbciaa.PFnExactEffectsLive
