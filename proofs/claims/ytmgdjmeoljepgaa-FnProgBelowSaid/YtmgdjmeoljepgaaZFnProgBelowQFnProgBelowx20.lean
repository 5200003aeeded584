/- Walks (lines of the print; no condition). -/
import Derived.Test.YtmgdjmeoljepgaaZFnProgBelowQFnProgBelowx18
namespace Go.Proofs.Ytmgdjmeoljepgaa.PFnProgBelow
open Go.RowKit Go.Proofs.YtmgdjmeoljepgaaW.PrintWords Go.Proofs.YtmgdjmeoljepgaaW.PrintLast Go.Proofs.YtmgdjmeoljepgaaW.PrintMore
attribute [local go_sem] max2_int min2_int max_two min_two max_three min_three max_four min_four
set_option linter.unusedVariables false
set_option linter.unusedSimpArgs false
def impl_formsOk.l0 : Nat → Int → List (List (S70)) → Int → Int → Int → List (S67) → List (List (S57)) → Int → Int → List Int → List (List (S70)) → List (S70) → List (S76) → List (S46) → Option (Bool)
 | 0,_,_,_,_,_,_,_,_,_,_,_,_,_,_ => none
 | k + 1,x2,x9,aM,aK,aA,aB,aC,aD,aE,aF,aG,aH,aI,aJ => if aK < aM then (if 0 ≤ aK then (if aK < (x9.length : Int) then ((impl_FormOk.f k (rd_L5 x9 aK) aA (aB.length : Int) x2).bind fun aL => (if aL = true then (impl_formsOk.l0 k x2 x9 aM (wrap64 (aK + 1)) aA aB aC aD aE aF aG aH aI aJ) else (some false))) else (none)) else (none)) else (some true)
def impl_formsOk.f (k : Nat) (aA : Int) (aB : List (S67)) (aC : List (List (S57))) (aD : Int) (aE : Int) (aF : List Int) (aG : List (List (S70))) (aH : List (S70)) (aI : List (S76)) (aJ : List (S46)) (l1 : List (List (S70))) (a2 : Int) : Option (Bool):=impl_formsOk.l0 k a2 l1 (l1.length : Int) 0 aA aB aC aD aE aF aG aH aI aJ
set_option maxHeartbeats 8000000 in
set_option maxRecDepth 100000 in
theorem impl_formsOk.calls (k : Nat) (aH : Int) (aW : Option Addr) (aX : Nat) (aF : List (S67)) (aY : Option Addr) (aZ : Nat) (aK : List (List (S57))) (aU : Int) (aV : Int) (a0 : Option Addr) (a3 : Nat) (aL : List Int) (a4 : Option Addr) (a5 : Nat) (aM : List (List (S70))) (a6 : Option Addr) (a7 : Nat) (aN : List (S70)) (a8 : Option Addr) (a9 : Nat) (aO : List (S76)) (bA : Option Addr) (bB : Nat) (aP : List (S46)) (A1 : Option Addr) (c1 : Nat) (l1 : List (List (S70))) (a2 : Int) (r : Bool) (w : World) (bC : Kd.C k67 w aW aF.length aF) (bD : aF.length ≤ aX) (bE : Kd.C (Kd.slice 57 k57) w aY aK.length aK) (bF : aK.length ≤ aZ) (bG : Kd.C (Kd.int .i64) w a0 aL.length aL) (bH : aL.length ≤ a3) (bI : Kd.C (Kd.slice 70 k70) w a4 aM.length aM) (bJ : aM.length ≤ a5) (bK : Kd.C k70 w a6 aN.length aN) (bL : aN.length ≤ a7) (bM : Kd.C k76 w a8 aO.length aO) (bN : aO.length ≤ a9) (bO : Kd.C k46 w bA aP.length aP) (bP : aP.length ≤ bB) (hr1 : Kd.C (Kd.slice 70 k70) w A1 l1.length l1) (dB : l1.length ≤ c1) (h : impl_formsOk.f k aH aF aK aU aV aL aM aN aO aP l1 a2 = some r) :
  Calls Try.prog 38 #[.agg #[.int .i64 aH,.slice aW aF.length aX,.slice aY aK.length aZ,.int .i64 aU,.int .i64 aV,.slice a0 aL.length a3,.slice a4 aM.length a5,.slice a6 aN.length a7,.slice a8 aO.length a9,.slice bA aP.length bB],.slice A1 l1.length c1,.int .i64 a2] w fun e w' => e = .returned (.bool r) ∧ Below w.heap.size w w':=by
 have dT:=Try.underlying48;have dC:=A_ bC;have dD:=A_ bD;clear bC bD;have dE:=A_ bE;have dF:=A_ bF;clear bE bF;have dG:=A_ bG;have dH:=A_ bH;clear bG bH;have dI:=A_ bI;have dJ:=A_ bJ;clear bI bJ;have dK:=A_ bK;have dL:=A_ bL;clear bK bL;have dM:=A_ bM;have dN:=A_ bN;clear bM bN;have dO:=A_ bO;have dP:=A_ bP;clear bO bP;have dQ:=A_ hr1;have dX:=A_ dB;clear hr1 dB;have HB:=A_ (Below.refl w.heap.size w);have H:=h;unfold impl_formsOk.f at H;clear h;have H':=A_ H;clear H
 go_enter Try.func38,Try.ntmps38
 go_wp2_with (first | ((with_reducible refine gate_dst (N:=3) rfl ?_);refine be (cs:=#[.int .i64 aH,.slice aW aF.length aX,.slice aY aK.length aZ,.int .i64 aU,.int .i64 aV,.slice a0 aL.length a3,.slice a4 aM.length a5,.slice a6 aN.length a7,.slice a8 aO.length a9,.slice bA aP.length bB]) (t:=48) ?_;intro bR hg w4 hbox hb;have aB:=A_ hbox;have bT:=A_ (gl hg (bz Z2));have aG:=bT;replace HB:=A_ (bst Z2 hb);clear hb hbox hg))
 go_loopg [11] k (fun kq dU w' => ∃ (aA : Int),dU = .int .i64 aA ∧ Aside0 (impl_formsOk.l0 kq a2 l1 (l1.length : Int) aA aH aF aK aU aV aL aM aN aO aP = some r) ∧ Aside0 (kq ≤ k) ∧ Aside0 (w'.heap[bR]? = some (.cells #[.int .i64 aH,(.slice aW aF.length aX),(.slice aY aK.length aZ),.int .i64 aU,.int .i64 aV,(.slice a0 aL.length a3),(.slice a4 aM.length a5),(.slice a6 aN.length a7),(.slice a8 aO.length a9),(.slice bA aP.length bB)] 48 (0,0))) ∧ Aside0 (Below w.heap.size w w'))
 case atStart => exact ⟨(0),Z22,H',⟨Nat.le_refl _⟩,⟨Z1 aB.out⟩,⟨Z3 aG.out⟩⟩
 case round =>
  clear H';obtain ⟨aA,rfl,HA,dR,aB,HB⟩:=hrel
  cases gk with
  | zero => exact absurd HA.out (by simp [impl_formsOk.l0])
  | succ k1 =>
   have H:=HA.out;clear HA;simp only [impl_formsOk.l0] at H
   by_cases c5 : aA < (l1.length : Int)
   ·rw [if_pos c5] at H
    have cZ:=dt c5;clear c5
    by_cases c6 : 0 ≤ aA
    ·rw [if_pos c6] at H
     have dV:=dt c6;clear c6
     by_cases c7 : aA < (l1.length : Int)
     ·rw [if_pos c7] at H
      have dW:=dt c7;clear c7;replace H:=bS H;obtain ⟨dA,dS,H⟩:=H
      try dsimp only at H
      have A8:=A_ dS;clear dS
      by_cases c9 : dA = true
      ·subst c9
       rw [if_pos rfl] at H;have H':=A_ H;clear H;have aQ : 0 ≤ (aA : Int):=odt;have aR : aA < (l1.length : Int):=odt;obtain ⟨bU,aS,aT,bQ,aC,aD,aE⟩:=at_L5 dQ.out aA aQ aR;cases bQ;replace aC:=ZC HB.out aC;have aI:=A_ aE;have aJ:=A_ aD;clear aE aD;replace aQ:=eq_true aQ;replace aR:=eq_true aR;obtain ⟨bV,bW,bX,bY,bZ,b0,b1,b2,b3,b4,b5,b6,b7,b8,b9,cA,cB,cC,cD,cE⟩:=C10 aB.out
       go_wp2_with (first | ((with_reducible refine gate_callee (f:=37) rfl ?_);refine gL 22 Try.func37 #[.slice aS (rd_L5 l1 aA).length aT,.int .i64 aH,.int .i64 (aF.length : Int),.int .i64 a2] ?_;(with_reducible refine (impl_FormOk.calls k1 _ _ (rd_L5 l1 aA) aH (aF.length : Int) a2 true _ ?s1 aJ.out A8.out).mono ?_);(case s1 => exact Z9 aI.out);rintro e dY ⟨rfl,hb⟩;refine ⟨_,rfl,?_⟩;replace aB:=A_ (bb (Z1 aB.out) hb);replace HB:=A_ (bst (Z3 aG.out) hb);(try clear hb)))
       go_roundg k1
       case measure => have:=dR.out;omega
       case rel => exact ⟨(wrap64 (aA + 1)),Z22,H',⟨by have:=dR.out;omega⟩,⟨Z1 aB.out⟩,⟨Z3 aG.out⟩⟩
      ·replace c9:=Bool.eq_false_iff.mpr c9
       subst c9;rw [if_neg (show ¬ (false = true) by decide)] at H;obtain rfl:=Option.some.inj H;have aQ : 0 ≤ (aA : Int):=odt;have aR : aA < (l1.length : Int):=odt;obtain ⟨bU,aS,aT,bQ,aC,aD,aE⟩:=at_L5 dQ.out aA aQ aR;cases bQ;replace aC:=ZC HB.out aC;have aI:=A_ aE;have aJ:=A_ aD;clear aE aD;replace aQ:=eq_true aQ;replace aR:=eq_true aR;obtain ⟨cF,cG,cH,cI,cJ,cK,cL,cM,cN,cO,cP,cQ,cR,cS,cT,cU,cV,cW,cX,cY⟩:=C10 aB.out
       go_wp2_with (first | ((with_reducible refine gate_callee (f:=37) rfl ?_);refine gL 22 Try.func37 #[.slice aS (rd_L5 l1 aA).length aT,.int .i64 aH,.int .i64 (aF.length : Int),.int .i64 a2] ?_;(with_reducible refine (impl_FormOk.calls k1 _ _ (rd_L5 l1 aA) aH (aF.length : Int) a2 false _ ?s1 aJ.out A8.out).mono ?_);(case s1 => exact Z9 aI.out);rintro e dZ ⟨rfl,hb⟩;refine ⟨_,rfl,?_⟩;replace aB:=A_ (bb (Z1 aB.out) hb);replace HB:=A_ (bst (Z3 aG.out) hb);(try clear hb)))
       go_ret
       exact ⟨Z12,Z3 aG.out⟩
     ·rw [if_neg c7] at H
      exact absurd H (by simp)
    ·rw [if_neg c6] at H
     exact absurd H (by simp)
   ·rw [if_neg c5] at H
    have cZ:=df c5;clear c5;obtain rfl:=Option.some.inj H
    go_wp2
    go_ret
    exact ⟨Z12,Z3 aG.out⟩
end Go.Proofs.Ytmgdjmeoljepgaa.PFnProgBelow
