/- Walks (lines of the print; no condition). -/
import Derived.Test.YtmgdjmeoljepgaaZFnProgBelowQFnProgBelowx17
namespace Go.Proofs.Ytmgdjmeoljepgaa.PFnProgBelow
open Go.RowKit Go.Proofs.YtmgdjmeoljepgaaW.PrintWords Go.Proofs.YtmgdjmeoljepgaaW.PrintLast Go.Proofs.YtmgdjmeoljepgaaW.PrintMore
attribute [local go_sem] max2_int min2_int max_two min_two max_three min_three max_four min_four
set_option linter.unusedVariables false
set_option linter.unusedSimpArgs false
def impl_FormOk.f (k : Nat) (l0 : List (S70)) (a1 : Int) (a2 : Int) (a3 : Int) : Option (Bool):=(impl_within.f a1 0 3).bind fun aA => (if aA = true then ((impl_within.f a2 0 3).bind fun aB => (if aB = true then ((impl_within.f a3 0 4).bind fun aC => (if aC = true then ((impl_formFits.f k l0 a1 a2 a3).bind fun aD => (some aD)) else (some false))) else (some false))) else (some false))
set_option maxHeartbeats 8000000 in
set_option maxRecDepth 100000 in
theorem impl_FormOk.calls (k : Nat) (A0 : Option Addr) (c0 : Nat) (l0 : List (S70)) (a1 : Int) (a2 : Int) (a3 : Int) (r : Bool) (w : World) (aF : Kd.C k70 w A0 l0.length l0) (hc0 : l0.length ≤ c0) (h : impl_FormOk.f k l0 a1 a2 a3 = some r) :
  Calls Try.prog 37 #[.slice A0 l0.length c0,.int .i64 a1,.int .i64 a2,.int .i64 a3] w fun e w' => e = .returned (.bool r) ∧ Below w.heap.size w w':=by
 have aJ:=A_ aF;have aK:=A_ hc0;clear aF hc0;have HB:=A_ (Below.refl w.heap.size w);have H:=h;unfold impl_FormOk.f at H;clear h;replace H:=bS H;obtain ⟨aB,aG,H⟩:=H
 try dsimp only at H
 have A5:=A_ aG;clear aG
 by_cases c6 : aB = true
 ·subst c6
  rw [if_pos rfl] at H;replace H:=bS H;obtain ⟨aC,aH,H⟩:=H
  try dsimp only at H
  have A7:=A_ aH;clear aH
  by_cases c8 : aC = true
  ·subst c8
   rw [if_pos rfl] at H;replace H:=bS H;obtain ⟨aD,aI,H⟩:=H
   try dsimp only at H
   have A9:=A_ aI;clear aI
   by_cases c10 : aD = true
   ·subst c10
    rw [if_pos rfl] at H;replace H:=bS H;obtain ⟨aE,aA,H⟩:=H
    try dsimp only at H
    have aL:=A_ aA;clear aA;obtain rfl:=Option.some.inj H
    go_enter Try.func37,Try.ntmps37
    go_wp2_with (first | ((with_reducible refine gate_callee (f:=14) rfl ?_);refine gL 10 Try.func14 #[.int .i64 a1,.int .i64 0,.int .i64 3] ?_;(with_reducible refine (impl_within.calls a1 0 3 true _ A5.out).mono ?_);rintro e w' ⟨rfl,⟨nd,rfl⟩⟩;refine ⟨_,rfl,?_⟩) | (go_at_call 14;(with_reducible refine (impl_within.calls a2 0 3 true _ A7.out).mono ?_);rintro e w' ⟨rfl,⟨nd,rfl⟩⟩) | (go_at_call 14;(with_reducible refine (impl_within.calls a3 0 4 true _ A9.out).mono ?_);rintro e w' ⟨rfl,⟨nd,rfl⟩⟩) | (go_at_call 47;(with_reducible refine (impl_formFits.calls k _ _ l0 a1 a2 a3 aE _ ?s1 aK.out aL.out).mono ?_);(case s1 => exact Z61 aJ.out);rintro e aM ⟨rfl,hb⟩;replace HB:=A_ (bst Z2 hb);(try clear hb)))
    go_ret
    exact ⟨Z12,Z2⟩
   ·replace c10:=Bool.eq_false_iff.mpr c10
    subst c10;rw [if_neg (show ¬ (false = true) by decide)] at H;obtain rfl:=Option.some.inj H
    go_enter Try.func37,Try.ntmps37
    go_wp2_with (first | ((with_reducible refine gate_callee (f:=14) rfl ?_);refine gL 10 Try.func14 #[.int .i64 a1,.int .i64 0,.int .i64 3] ?_;(with_reducible refine (impl_within.calls a1 0 3 true _ A5.out).mono ?_);rintro e w' ⟨rfl,⟨nd,rfl⟩⟩;refine ⟨_,rfl,?_⟩) | (go_at_call 14;(with_reducible refine (impl_within.calls a2 0 3 true _ A7.out).mono ?_);rintro e w' ⟨rfl,⟨nd,rfl⟩⟩) | (go_at_call 14;(with_reducible refine (impl_within.calls a3 0 4 false _ A9.out).mono ?_);rintro e w' ⟨rfl,⟨nd,rfl⟩⟩))
    go_ret
    exact ⟨Z12,Z2⟩
  ·replace c8:=Bool.eq_false_iff.mpr c8
   subst c8;rw [if_neg (show ¬ (false = true) by decide)] at H;obtain rfl:=Option.some.inj H
   go_enter Try.func37,Try.ntmps37
   go_wp2_with (first | ((with_reducible refine gate_callee (f:=14) rfl ?_);refine gL 10 Try.func14 #[.int .i64 a1,.int .i64 0,.int .i64 3] ?_;(with_reducible refine (impl_within.calls a1 0 3 true _ A5.out).mono ?_);rintro e w' ⟨rfl,⟨nd,rfl⟩⟩;refine ⟨_,rfl,?_⟩) | (go_at_call 14;(with_reducible refine (impl_within.calls a2 0 3 false _ A7.out).mono ?_);rintro e w' ⟨rfl,⟨nd,rfl⟩⟩))
   go_ret
   exact ⟨Z12,Z2⟩
 ·replace c6:=Bool.eq_false_iff.mpr c6
  subst c6;rw [if_neg (show ¬ (false = true) by decide)] at H;obtain rfl:=Option.some.inj H
  go_enter Try.func37,Try.ntmps37
  go_wp2_with (first | ((with_reducible refine gate_callee (f:=14) rfl ?_);refine gL 10 Try.func14 #[.int .i64 a1,.int .i64 0,.int .i64 3] ?_;(with_reducible refine (impl_within.calls a1 0 3 false _ A5.out).mono ?_);rintro e w' ⟨rfl,⟨nd,rfl⟩⟩;refine ⟨_,rfl,?_⟩))
  go_ret
  exact ⟨Z12,Z2⟩
end Go.Proofs.Ytmgdjmeoljepgaa.PFnProgBelow
