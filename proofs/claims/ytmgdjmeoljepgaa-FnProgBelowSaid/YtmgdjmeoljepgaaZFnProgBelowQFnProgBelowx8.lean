/- Walks (lines of the print; no condition). -/
import Derived.Test.YtmgdjmeoljepgaaZFnProgBelowQFnProgBelowx3
namespace Go.Proofs.Ytmgdjmeoljepgaa.PFnProgBelow
open Go.RowKit Go.Proofs.YtmgdjmeoljepgaaW.PrintWords Go.Proofs.YtmgdjmeoljepgaaW.PrintLast Go.Proofs.YtmgdjmeoljepgaaW.PrintMore
attribute [local go_sem] max2_int min2_int max_two min_two max_three min_three max_four min_four
set_option linter.unusedVariables false
set_option linter.unusedSimpArgs false
def spec_validForms.l0 : Nat → List (List (S70)) → Int → Int → Int → Int → Option (Bool)
 | 0,_,_,_,_,_ => none
 | k + 1,x0,x1,x2,x3,x9 => if x9 < (x0.length : Int) then (if 0 ≤ x9 then ((spec_validForm.f k (rd_L5 x0 x9) x1 x2 x3).bind fun aA => (if aA = true then (spec_validForms.l0 k x0 x1 x2 x3 (wrap64 (x9 + 1))) else (some false))) else (none)) else (some true)
def spec_validForms.f (k : Nat) (l0 : List (List (S70))) (a1 : Int) (a2 : Int) (a3 : Int) : Option (Bool):=spec_validForms.l0 k l0 a1 a2 a3 0
set_option maxHeartbeats 8000000 in
set_option maxRecDepth 100000 in
theorem spec_validForms.calls (k : Nat) (A0 : Option Addr) (c0 : Nat) (l0 : List (List (S70))) (a1 : Int) (a2 : Int) (a3 : Int) (r : Bool) (w : World) (aO : Kd.C (Kd.slice 70 k70) w A0 l0.length l0) (hc0 : l0.length ≤ c0) (h : spec_validForms.f k l0 a1 a2 a3 = some r) :
  Calls Try.prog 43 #[.slice A0 l0.length c0,.int .i64 a1,.int .i64 a2,.int .i64 a3] w fun e w' => e = .returned (.bool r) ∧ Below w.heap.size w w':=by
 have aP:=A_ aO;have aT:=A_ hc0;clear aO hc0;have HB:=A_ (Below.refl w.heap.size w);have H:=h;unfold spec_validForms.f at H;clear h;have H':=A_ H;clear H
 go_enter Try.func43,Try.ntmps43
 go_wp2
 go_loopg [9] k (fun kq v9 w' => ∃ (aA : Int),v9 = .int .i64 aA ∧ Aside0 (spec_validForms.l0 kq l0 a1 a2 a3 aA = some r) ∧ Aside0 (kq ≤ k) ∧ Aside0 (Below w.heap.size w w'))
 case atStart => exact ⟨(0),Z22,H',⟨Nat.le_refl _⟩,⟨Z2⟩⟩
 case round =>
  clear H';obtain ⟨aA,rfl,HA,aQ,HB⟩:=hrel
  cases gk with
  | zero => exact absurd HA.out (by simp [spec_validForms.l0])
  | succ k1 =>
   have H:=HA.out;clear HA;simp only [spec_validForms.l0] at H
   by_cases c5 : aA < (l0.length : Int)
   ·rw [if_pos c5] at H
    have aM:=dt c5;clear c5
    by_cases c6 : 0 ≤ aA
    ·rw [if_pos c6] at H
     have aS:=dt c6;clear c6;replace H:=bS H;obtain ⟨aN,aR,H⟩:=H
     try dsimp only at H
     have A7:=A_ aR;clear aR
     by_cases c8 : aN = true
     ·subst c8
      rw [if_pos rfl] at H;have H':=A_ H;clear H;have aG : 0 ≤ (aA : Int):=odt;have aH : aA < (l0.length : Int):=odt;obtain ⟨aL,aI,aJ,aK,aB,aC,aD⟩:=at_L5 aP.out aA aG aH;cases aK;replace aB:=ZC HB.out aB;have aE:=A_ aD;have aF:=A_ aC;clear aD aC;replace aG:=eq_true aG;replace aH:=eq_true aH
      go_wp2_with (first | ((with_reducible refine gate_callee (f:=40) rfl ?_);refine gL 23 Try.func40 #[.slice aI (rd_L5 l0 aA).length aJ,.int .i64 a1,.int .i64 a2,.int .i64 a3] ?_;(with_reducible refine (spec_validForm.calls k1 _ _ (rd_L5 l0 aA) a1 a2 a3 true _ ?s1 aF.out A7.out).mono ?_);(case s1 => exact Z9 aE.out);rintro e w9 ⟨rfl,hb⟩;refine ⟨_,rfl,?_⟩;replace HB:=A_ (bst Z2 hb);(try clear hb)))
      go_roundg k1
      case measure => have:=aQ.out;omega
      case rel => exact ⟨(wrap64 (aA + 1)),Z22,H',⟨by have:=aQ.out;omega⟩,⟨Z2⟩⟩
     ·replace c8:=Bool.eq_false_iff.mpr c8
      subst c8;rw [if_neg (show ¬ (false = true) by decide)] at H;obtain rfl:=Option.some.inj H;have aG : 0 ≤ (aA : Int):=odt;have aH : aA < (l0.length : Int):=odt;obtain ⟨aL,aI,aJ,aK,aB,aC,aD⟩:=at_L5 aP.out aA aG aH;cases aK;replace aB:=ZC HB.out aB;have aE:=A_ aD;have aF:=A_ aC;clear aD aC;replace aG:=eq_true aG;replace aH:=eq_true aH
      go_wp2_with (first | ((with_reducible refine gate_callee (f:=40) rfl ?_);refine gL 23 Try.func40 #[.slice aI (rd_L5 l0 aA).length aJ,.int .i64 a1,.int .i64 a2,.int .i64 a3] ?_;(with_reducible refine (spec_validForm.calls k1 _ _ (rd_L5 l0 aA) a1 a2 a3 false _ ?s1 aF.out A7.out).mono ?_);(case s1 => exact Z9 aE.out);rintro e aU ⟨rfl,hb⟩;refine ⟨_,rfl,?_⟩;replace HB:=A_ (bst Z2 hb);(try clear hb)))
      go_ret
      exact ⟨Z12,Z2⟩
    ·rw [if_neg c6] at H
     exact absurd H (by simp)
   ·rw [if_neg c5] at H
    have aM:=df c5;clear c5;obtain rfl:=Option.some.inj H
    go_wp2
    go_ret
    exact ⟨Z12,Z2⟩
end Go.Proofs.Ytmgdjmeoljepgaa.PFnProgBelow
