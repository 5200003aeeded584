/- Walks (lines of the print; no condition). -/
import Derived.Test.YtmgdjmeoljepgaaZFnProgBelowQFnProgBelowx3
namespace Go.Proofs.Ytmgdjmeoljepgaa.PFnProgBelow
open Go.RowKit Go.Proofs.YtmgdjmeoljepgaaW.PrintWords Go.Proofs.YtmgdjmeoljepgaaW.PrintLast Go.Proofs.YtmgdjmeoljepgaaW.PrintMore
attribute [local go_sem] max2_int min2_int max_two min_two max_three min_three max_four min_four
set_option linter.unusedVariables false
set_option linter.unusedSimpArgs false
set_option maxHeartbeats 8000000
set_option maxRecDepth 100000
mutual
def spec_validActs.l0 : Nat → Int → Int → List (S67) → List (List (S57)) → Int → Int → List Int → List (List (S70)) → List (S70) → List (S76) → List (S46) → Option (Bool)
 | 0,_,_,_,_,_,_,_,_,_,_,_ => none
 | k + 1,x3,aC,aB,aA,aD,aE,aF,aG,aH,aI,aJ => if x3 < (aA.length : Int) then (if 0 ≤ x3 then (if ((rd_L7 aA x3).length : Int) > 3 then (some false) else (spec_validActs.l1 k x3 0 aC aB aA aD aE aF aG aH aI aJ)) else (none)) else (some true)
def spec_validActs.l1 : Nat → Int → Int → Int → List (S67) → List (List (S57)) → Int → Int → List Int → List (List (S70)) → List (S70) → List (S76) → List (S46) → Option (Bool)
 | 0,_,_,_,_,_,_,_,_,_,_,_,_ => none
 | k + 1,x3,x4,aC,aB,aA,aD,aE,aF,aG,aH,aI,aJ => if 0 ≤ x3 then (if x3 < (aA.length : Int) then (if x4 < ((rd_L7 aA x3).length : Int) then (if 0 ≤ x4 then ((spec_inRange.f ((rd_T57 (rd_L7 aA x3) x4).f0) 0 (wrap64 ((aB.length : Int) - 1))).bind fun aK => (if aK = true then ((spec_validForm.f k ((rd_T57 (rd_L7 aA x3) x4).f1) 0 (aB.length : Int) 0).bind fun aL => (if aL = true then (spec_validActs.l1 k x3 (wrap64 (x4 + 1)) aC aB aA aD aE aF aG aH aI aJ) else (some false))) else (some false))) else (none)) else (spec_validActs.l0 k (wrap64 (x3 + 1)) aC aB aA aD aE aF aG aH aI aJ)) else (none)) else (none)
end
def spec_validActs.f (k : Nat) (aB : Int) (aC : List (S67)) (aA : List (List (S57))) (aD : Int) (aE : Int) (aF : List Int) (aG : List (List (S70))) (aH : List (S70)) (aI : List (S76)) (aJ : List (S46)) : Option (Bool):=if (aA.length : Int) > 3 then (some false) else (spec_validActs.l0 k 0 aB aC aA aD aE aF aG aH aI aJ)
theorem spec_validActs.calls (k : Nat) (bH : Int) (bO : Option Addr) (bP : Nat) (aQ : List (S67)) (cA : Option Addr) (bQ : Nat) (aC : List (List (S57))) (bI : Int) (bJ : Int) (bR : Option Addr) (bT : Nat) (a5 : List Int) (bU : Option Addr) (bV : Nat) (a6 : List (List (S70))) (bW : Option Addr) (bX : Nat) (a7 : List (S70)) (bY : Option Addr) (bZ : Nat) (a8 : List (S76)) (b0 : Option Addr) (b1 : Nat) (a9 : List (S46)) (r : Bool) (w : World) (dC : Kd.C k67 w bO aQ.length aQ) (dD : aQ.length ≤ bP) (dE : Kd.C (Kd.slice 57 k57) w cA aC.length aC) (dF : aC.length ≤ bQ) (dG : Kd.C (Kd.int .i64) w bR a5.length a5) (dH : a5.length ≤ bT) (dI : Kd.C (Kd.slice 70 k70) w bU a6.length a6) (dJ : a6.length ≤ bV) (dK : Kd.C k70 w bW a7.length a7) (dL : a7.length ≤ bX) (dM : Kd.C k76 w bY a8.length a8) (dN : a8.length ≤ bZ) (dO : Kd.C k46 w b0 a9.length a9) (dP : a9.length ≤ b1) (h : spec_validActs.f k bH aQ aC bI bJ a5 a6 a7 a8 a9 = some r) :
  Calls Try.prog 28 #[.agg #[.int .i64 bH,.slice bO aQ.length bP,.slice cA aC.length bQ,.int .i64 bI,.int .i64 bJ,.slice bR a5.length bT,.slice bU a6.length bV,.slice bW a7.length bX,.slice bY a8.length bZ,.slice b0 a9.length b1]] w fun e w' => e = .returned (.bool r) ∧ Below w.heap.size w w':=by
 have m1:=Try.underlying48;have m2:=Try.underlying57;have mE:=A_ dC;have mF:=A_ dD;clear dC dD;have aY:=A_ dE;have mG:=A_ dF;clear dE dF;have mH:=A_ dG;have mI:=A_ dH;clear dG dH;have mJ:=A_ dI;have mK:=A_ dJ;clear dI dJ;have mL:=A_ dK;have mM:=A_ dL;clear dK dL;have mN:=A_ dM;have mO:=A_ dN;clear dM dN;have mP:=A_ dO;have mQ:=A_ dP;clear dO dP;have HB:=A_ (Below.refl w.heap.size w);have H:=h;unfold spec_validActs.f at H;clear h
 by_cases c2 : (aC.length : Int) > 3
 ·rw [if_pos c2] at H
  have eF : decide (3 < (aC.length : Int)) = true:=dt c2;have eG : decide (3 < aC.length) = true:=dt (by omega);clear c2;obtain rfl:=Option.some.inj H
  go_enter Try.func28,Try.ntmps28
  go_wp2_with (first | ((with_reducible refine gate_dst (N:=1) rfl ?_);(try (refine gate_guard (by rfl) ?_;dsimp only));refine be (cs:=#[.int .i64 bH,.slice bO aQ.length bP,.slice cA aC.length bQ,.int .i64 bI,.int .i64 bJ,.slice bR a5.length bT,.slice bU a6.length bV,.slice bW a7.length bX,.slice bY a8.length bZ,.slice b0 a9.length b1]) (t:=48) ?_;intro aS hg w3 hbox hb;have aB:=A_ hbox;have cB:=A_ (gl hg (bz Z2));have aE:=cB;replace HB:=A_ (bst Z2 hb);clear hb hbox hg;obtain ⟨lG,lH,lI,lJ,lK,lL,lM,lN,lO,lP,lQ,lR,lS,lT,lU,lV,lW,lX,lY,lZ⟩:=C10 aB.out))
  go_ret
  exact ⟨Z12,Z3 aE.out⟩
 ·rw [if_neg c2] at H
  have eF : decide (3 < (aC.length : Int)) = false:=df c2;have eG : decide (3 < aC.length) = false:=df (by omega);clear c2;have H':=A_ H;clear H
  go_enter Try.func28,Try.ntmps28
  go_wp2_with (first | ((with_reducible refine gate_dst (N:=1) rfl ?_);(try (refine gate_guard (by rfl) ?_;dsimp only));refine be (cs:=#[.int .i64 bH,.slice bO aQ.length bP,.slice cA aC.length bQ,.int .i64 bI,.int .i64 bJ,.slice bR a5.length bT,.slice bU a6.length bV,.slice bW a7.length bX,.slice bY a8.length bZ,.slice b0 a9.length b1]) (t:=48) ?_;intro aS hg w5 hbox hb;have aB:=A_ hbox;have cB:=A_ (gl hg (bz Z2));have aE:=cB;replace HB:=A_ (bst Z2 hb);clear hb hbox hg;obtain ⟨dR,dS,dT,dU,dV,dW,dX,dY,dZ,d0,d1,d2,d3,d4,d5,d6,d7,d8,d9,eA⟩:=C10 aB.out))
  go_loopg [3] k (fun kq v3 w' => ∃ (aA : Int),v3 = .int .i64 aA ∧ Aside0 (spec_validActs.l0 kq aA bH aQ aC bI bJ a5 a6 a7 a8 a9 = some r) ∧ Aside0 (kq ≤ k) ∧ Aside0 (w'.heap[aS]? = some (.cells #[.int .i64 bH,(.slice bO aQ.length bP),(.slice cA aC.length bQ),.int .i64 bI,.int .i64 bJ,(.slice bR a5.length bT),(.slice bU a6.length bV),(.slice bW a7.length bX),(.slice bY a8.length bZ),(.slice b0 a9.length b1)] 48 (0,0))) ∧ Aside0 (Below w.heap.size w w'))
  case atStart => exact ⟨(0),Z22,H',⟨Nat.le_refl _⟩,⟨Z1 aB.out⟩,⟨Z3 aE.out⟩⟩
  case round =>
   clear H' eF eG dR dS dT dU dV dW dX dY dZ d0 d1 d2 d3 d4 d5 d6 d7 d8 d9 eA;obtain ⟨aA,rfl,HA,eN,aB,HB⟩:=hrel
   cases gk with
   | zero => exact absurd HA.out (by simp [spec_validActs.l0])
   | succ k1 =>
    have H:=HA.out;clear HA;simp only [spec_validActs.l0] at H
    by_cases c7 : aA < (aC.length : Int)
    ·rw [if_pos c7] at H
     have eH:=dt c7;clear c7
     by_cases c8 : 0 ≤ aA
     ·rw [if_pos c8] at H
      have mA:=dt c8;clear c8
      by_cases c9 : ((rd_L7 aC aA).length : Int) > 3
      ·rw [if_pos c9] at H
       have eI : decide (3 < ((rd_L7 aC aA).length : Int)) = true:=dt c9;have eJ : decide (3 < (rd_L7 aC aA).length) = true:=dt (by omega);clear c9;obtain rfl:=Option.some.inj H;obtain ⟨eO,eP,eQ,eR,eS,eT,eU,eV,eW,eX,eY,eZ,e0,e1,e2,e3,e4,e5,e6,e7⟩:=C10 aB.out;have b2 : 0 ≤ (aA : Int):=odt;have b3 : aA < (aC.length : Int):=odt;obtain ⟨aT,eB,eC,eD,aU,aZ,a0⟩:=at_L7 aY.out aA b2 b3;cases eD;replace aU:=ZC HB.out aU;have cG:=A_ a0;have cH:=A_ aZ;clear a0 aZ;replace b2:=eq_true b2;replace b3:=eq_true b3
       go_wp2
       go_ret
       exact ⟨Z12,Z3 aE.out⟩
      ·rw [if_neg c9] at H
       have eI : decide (3 < ((rd_L7 aC aA).length : Int)) = false:=df c9;have eJ : decide (3 < (rd_L7 aC aA).length) = false:=df (by omega);clear c9;have H':=A_ H;clear H;obtain ⟨cI,cJ,cK,cL,cM,cN,cO,cP,cQ,cR,cS,cT,cU,cV,cW,cX,cY,cZ,dA,dB⟩:=C10 aB.out;have b2 : 0 ≤ (aA : Int):=odt;have b3 : aA < (aC.length : Int):=odt;obtain ⟨aT,eB,eC,eD,aU,aZ,a0⟩:=at_L7 aY.out aA b2 b3;cases eD;replace aU:=ZC HB.out aU;have cG:=A_ a0;have cH:=A_ aZ;clear a0 aZ;replace b2:=eq_true b2;replace b3:=eq_true b3
       go_wp2
       go_loopg [4] k1 (fun kq v4 w' => ∃ (aI : Int),v4 = .int .i64 aI ∧ Aside0 (spec_validActs.l1 kq aA aI bH aQ aC bI bJ a5 a6 a7 a8 a9 = some r) ∧ Aside0 (kq ≤ k1) ∧ Aside0 (w'.heap[aS]? = some (.cells #[.int .i64 bH,(.slice bO aQ.length bP),(.slice (some aT) aC.length bQ),.int .i64 bI,.int .i64 bJ,(.slice bR a5.length bT),(.slice bU a6.length bV),(.slice bW a7.length bX),(.slice bY a8.length bZ),(.slice b0 a9.length b1)] 48 (0,0))) ∧ Aside0 (Below w.heap.size w w'))
       case atStart => exact ⟨(0),Z22,H',⟨Nat.le_refl _⟩,⟨Z1 aB.out⟩,⟨Z3 aE.out⟩⟩
       case round =>
        clear H' eH mA eI eJ cI cJ cK cL cM cN cO cP cQ cR cS cT cU cV cW cX cY cZ dA dB aU b2 b3;obtain ⟨aI,rfl,HA,HK2,aB,HB⟩:=hrel
        cases gk with
        | zero => exact absurd HA.out (by simp [spec_validActs.l1])
        | succ k2 =>
         have H:=HA.out;clear HA;simp only [spec_validActs.l1] at H
         by_cases e8 : 0 ≤ aA
         ·rw [if_pos e8] at H
          have mR:=dt e8;clear e8
          by_cases e9 : aA < (aC.length : Int)
          ·rw [if_pos e9] at H
           have mS:=dt e9;clear e9
           by_cases eE : aI < ((rd_L7 aC aA).length : Int)
           ·rw [if_pos eE] at H
            have eK:=dt eE;clear eE
            by_cases fA : 0 ≤ aI
            ·rw [if_pos fA] at H
             have mT:=dt fA;clear fA;replace H:=bS H;obtain ⟨mB,eL,H⟩:=H
             try dsimp only at H
             have mC:=A_ eL;clear eL
             by_cases fB : mB = true
             ·subst fB
              rw [if_pos rfl] at H;replace H:=bS H;obtain ⟨mD,eM,H⟩:=H
              try dsimp only at H
              have mU:=A_ eM;clear eM
              by_cases fC : mD = true
              ·subst fC
               rw [if_pos rfl] at H;have H':=A_ H;clear H;obtain ⟨fD,fE,fF,fG,fH,fI,fJ,fK,fL,fM,fN,fO,fP,fQ,fR,fS,fT,fU,fV,fW⟩:=C10 aB.out;have aW : 0 ≤ (aA : Int):=odt;have aX : aA < (aC.length : Int):=odt;obtain ⟨bC,b6,b7,b8,aD,aF,aG⟩:=at_L7 aY.out aA aW aX;obtain rfl : aT = bC:=(by injection b8);replace aD:=ZC HB.out aD;have bK:=A_ aG;have bL:=A_ aF;clear aG aF;replace aW:=eq_true aW;replace aX:=eq_true aX;have bD : 0 ≤ (aA : Int):=odt;have bE : aA < (aC.length : Int):=odt;obtain ⟨b4,cC,cD,cE,aH,aK,aL⟩:=at_L7 aY.out aA bD bE;obtain rfl : aT = b4:=(by injection cE);replace aH:=ZC HB.out aH;have a2:=A_ aL;have b9:=A_ aK;clear aL aK;replace bD:=eq_true bD;replace bE:=eq_true bE;have ea_:=Option.some.inj (aD.symm.trans aH);injection ea_ with ea_ en_ ec_;subst ea_;subst ec_;clear en_;have bF : 0 ≤ (aI : Int):=odt;have bG : aI < ((rd_L7 aC aA).length : Int):=odt;obtain ⟨dQ,bM,bN,cF,aM,aN,aO,aP⟩:=at_T57 a2.out aI bF bG;cases cF;replace aM:=ZC HB.out aM;replace aN:=ZC HB.out aN
               have bA:=A_ aP;have bB:=A_ aO;clear aP aO;replace bF:=eq_true bF;replace bG:=eq_true bG
               go_wp2_with (first | ((with_reducible refine gate_dst (N:=5) rfl ?_);(try (refine gate_guard (by rfl) ?_;dsimp only));refine be (cs:=#[.int .i64 0,.slice none 0 0]) (t:=57) ?_;intro aV hg m3 hbox hb;have a3:=A_ hbox;have b5:=A_ (gl hg (bz (Z3 aE.out)));have a4:=b5;replace HB:=A_ (bst (Z3 aE.out) hb);have aJ:=A_ ((by rw [hg];exact nl (blk_lt (Z1 aB.out)) : aS ≠ aV));have aR:=A_ ((by rw [hg];exact Nat.ne_of_gt (blk_lt (Z1 aB.out)) : aV ≠ aS));replace aB:=A_ (bb (Z1 aB.out) hb);clear hb hbox hg;have mV:=aR.out;have mW:=aJ.out;obtain ⟨fX,fY,fZ,f7⟩:=C2 a3.out;obtain ⟨f8,f9,gA,gB,gC,gD,gE,gF,gG,gH,gI,gJ,gK,gM,gN,gO,gP,gQ,gR,gS⟩:=C10 aB.out) | ((with_reducible refine gate_callee (f:=17) rfl ?_);refine gL 48 Try.func17 #[.int .i64 ((rd_T57 (rd_L7 aC aA) aI).f0),.int .i64 0,.int .i64 (wrap64 ((aQ.length : Int) - 1))] ?_;(with_reducible refine (spec_inRange.calls ((rd_T57 (rd_L7 aC aA) aI).f0) 0 (wrap64 ((aQ.length : Int) - 1)) true _ mC.out).mono ?_);rintro e w' ⟨rfl,⟨nd,rfl⟩⟩;refine ⟨_,rfl,?_⟩) | (go_at_call 40;(with_reducible refine (spec_validForm.calls k2 _ _ ((rd_T57 (rd_L7 aC aA) aI).f1) 0 (aQ.length : Int) 0 true _ ?s1 bB.out mU.out).mono ?_);(case s1 => exact Kd.C_below bA.out (Z8 aE.out a4.out));rintro e m4 ⟨rfl,hb⟩;replace aB:=A_ (bb (g:=aS) (o:=.cells #[.int .i64 bH,.slice bO aQ.length bP,.slice (some aT) aC.length bQ,.int .i64 bI,.int .i64 bJ,.slice bR a5.length bT,.slice bU a6.length bV,.slice bW a7.length bX,.slice bY a8.length bZ,.slice b0 a9.length b1] 48 (0,0)) (Z26 aJ.out aB.out) hb);replace a3:=A_ (bb (g:=aV) (o:=.cells #[.int .i64 ((rd_T57 (rd_L7 aC aA) aI).f0),.slice bM ((rd_T57 (rd_L7 aC aA) aI).f1).length bN] 57 (0,0)) (bp0 a3.out) hb);replace HB:=A_ (bst (Z8 aE.out a4.out) hb);(try clear hb)))
               go_roundg k2
               case measure => have:=eN.out;have:=HK2.out;omega
               case rel => exact ⟨(wrap64 (aI + 1)),Z22,H',⟨by have:=eN.out;have:=HK2.out;omega⟩,⟨Z1 aB.out⟩,⟨Z8 aE.out a4.out⟩⟩
              ·replace fC:=Bool.eq_false_iff.mpr fC
               subst fC;rw [if_neg (show ¬ (false = true) by decide)] at H;obtain rfl:=Option.some.inj H;obtain ⟨gT,gU,gV,gW,gX,gY,gZ,hD,hI,hJ,hL,hO,hU,hV,hX,hY,hZ,iA,iB,iC⟩:=C10 aB.out;have aW : 0 ≤ (aA : Int):=odt;have aX : aA < (aC.length : Int):=odt;obtain ⟨bC,b6,b7,b8,aD,aF,aG⟩:=at_L7 aY.out aA aW aX;obtain rfl : aT = bC:=(by injection b8);replace aD:=ZC HB.out aD;have bK:=A_ aG;have bL:=A_ aF;clear aG aF;replace aW:=eq_true aW;replace aX:=eq_true aX;have bD : 0 ≤ (aA : Int):=odt;have bE : aA < (aC.length : Int):=odt;obtain ⟨b4,cC,cD,cE,aH,aK,aL⟩:=at_L7 aY.out aA bD bE;obtain rfl : aT = b4:=(by injection cE);replace aH:=ZC HB.out aH;have a2:=A_ aL;have b9:=A_ aK;clear aL aK;replace bD:=eq_true bD;replace bE:=eq_true bE;have ea_:=Option.some.inj (aD.symm.trans aH);injection ea_ with ea_ en_ ec_;subst ea_;subst ec_;clear en_;have bF : 0 ≤ (aI : Int):=odt;have bG : aI < ((rd_L7 aC aA).length : Int):=odt;obtain ⟨dQ,bM,bN,cF,aM,aN,aO,aP⟩:=at_T57 a2.out aI bF bG;cases cF;replace aM:=ZC HB.out aM
               replace aN:=ZC HB.out aN;have bA:=A_ aP;have bB:=A_ aO;clear aP aO;replace bF:=eq_true bF;replace bG:=eq_true bG
               go_wp2_with (first | ((with_reducible refine gate_dst (N:=5) rfl ?_);(try (refine gate_guard (by rfl) ?_;dsimp only));refine be (cs:=#[.int .i64 0,.slice none 0 0]) (t:=57) ?_;intro aV hg m5 hbox hb;have a3:=A_ hbox;have b5:=A_ (gl hg (bz (Z3 aE.out)));have a4:=b5;replace HB:=A_ (bst (Z3 aE.out) hb);have aJ:=A_ ((by rw [hg];exact nl (blk_lt (Z1 aB.out)) : aS ≠ aV));have aR:=A_ ((by rw [hg];exact Nat.ne_of_gt (blk_lt (Z1 aB.out)) : aV ≠ aS));replace aB:=A_ (bb (Z1 aB.out) hb);clear hb hbox hg;have mX:=aR.out;have mY:=aJ.out;obtain ⟨iD,iE,iF,iG⟩:=C2 a3.out;obtain ⟨iH,iI,iJ,iK,iL,iM,iN,iO,iP,iQ,iR,iS,iT,iU,iV,iW,iX,iY,iZ,i1⟩:=C10 aB.out) | ((with_reducible refine gate_callee (f:=17) rfl ?_);refine gL 48 Try.func17 #[.int .i64 ((rd_T57 (rd_L7 aC aA) aI).f0),.int .i64 0,.int .i64 (wrap64 ((aQ.length : Int) - 1))] ?_;(with_reducible refine (spec_inRange.calls ((rd_T57 (rd_L7 aC aA) aI).f0) 0 (wrap64 ((aQ.length : Int) - 1)) true _ mC.out).mono ?_);rintro e w' ⟨rfl,⟨nd,rfl⟩⟩;refine ⟨_,rfl,?_⟩) | (go_at_call 40;(with_reducible refine (spec_validForm.calls k2 _ _ ((rd_T57 (rd_L7 aC aA) aI).f1) 0 (aQ.length : Int) 0 false _ ?s1 bB.out mU.out).mono ?_);(case s1 => exact Kd.C_below bA.out (Z8 aE.out a4.out));rintro e m6 ⟨rfl,hb⟩;replace aB:=A_ (bb (g:=aS) (o:=.cells #[.int .i64 bH,.slice bO aQ.length bP,.slice (some aT) aC.length bQ,.int .i64 bI,.int .i64 bJ,.slice bR a5.length bT,.slice bU a6.length bV,.slice bW a7.length bX,.slice bY a8.length bZ,.slice b0 a9.length b1] 48 (0,0)) (Z26 aJ.out aB.out) hb);replace a3:=A_ (bb (g:=aV) (o:=.cells #[.int .i64 ((rd_T57 (rd_L7 aC aA) aI).f0),.slice bM ((rd_T57 (rd_L7 aC aA) aI).f1).length bN] 57 (0,0)) (bp0 a3.out) hb);replace HB:=A_ (bst (Z8 aE.out a4.out) hb);(try clear hb)))
               go_ret
               exact ⟨Z12,Z8 aE.out a4.out⟩
             ·replace fB:=Bool.eq_false_iff.mpr fB
              subst fB;rw [if_neg (show ¬ (false = true) by decide)] at H;obtain rfl:=Option.some.inj H;obtain ⟨i2,i3,i4,i5,i6,i7,i8,i9,jA,jB,jC,jD,jE,jF,jG,jH,jI,jJ,jK,jL⟩:=C10 aB.out;have aW : 0 ≤ (aA : Int):=odt;have aX : aA < (aC.length : Int):=odt;obtain ⟨bC,b6,b7,b8,aD,aF,aG⟩:=at_L7 aY.out aA aW aX;obtain rfl : aT = bC:=(by injection b8);replace aD:=ZC HB.out aD;have bK:=A_ aG;have bL:=A_ aF;clear aG aF;replace aW:=eq_true aW;replace aX:=eq_true aX;have bD : 0 ≤ (aA : Int):=odt;have bE : aA < (aC.length : Int):=odt;obtain ⟨b4,cC,cD,cE,aH,aK,aL⟩:=at_L7 aY.out aA bD bE;obtain rfl : aT = b4:=(by injection cE);replace aH:=ZC HB.out aH;have a2:=A_ aL;have b9:=A_ aK;clear aL aK;replace bD:=eq_true bD;replace bE:=eq_true bE;have ea_:=Option.some.inj (aD.symm.trans aH);injection ea_ with ea_ en_ ec_;subst ea_;subst ec_;clear en_;have bF : 0 ≤ (aI : Int):=odt;have bG : aI < ((rd_L7 aC aA).length : Int):=odt;obtain ⟨dQ,bM,bN,cF,aM,aN,aO,aP⟩:=at_T57 a2.out aI bF bG;cases cF;replace aM:=ZC HB.out aM
              replace aN:=ZC HB.out aN;have bA:=A_ aP;have bB:=A_ aO;clear aP aO;replace bF:=eq_true bF;replace bG:=eq_true bG
              go_wp2_with (first | ((with_reducible refine gate_dst (N:=5) rfl ?_);(try (refine gate_guard (by rfl) ?_;dsimp only));refine be (cs:=#[.int .i64 0,.slice none 0 0]) (t:=57) ?_;intro aV hg m7 hbox hb;have a3:=A_ hbox;have b5:=A_ (gl hg (bz (Z3 aE.out)));have a4:=b5;replace HB:=A_ (bst (Z3 aE.out) hb);have aJ:=A_ ((by rw [hg];exact nl (blk_lt (Z1 aB.out)) : aS ≠ aV));have aR:=A_ ((by rw [hg];exact Nat.ne_of_gt (blk_lt (Z1 aB.out)) : aV ≠ aS));replace aB:=A_ (bb (Z1 aB.out) hb);clear hb hbox hg;have mZ:=aR.out;have m0:=aJ.out;obtain ⟨jM,jN,jO,jP⟩:=C2 a3.out;obtain ⟨jQ,jR,jS,jT,jU,jV,jW,jX,jY,jZ,j0,j1,j2,j3,j4,j5,j6,j7,j8,j9⟩:=C10 aB.out) | ((with_reducible refine gate_callee (f:=17) rfl ?_);refine gL 48 Try.func17 #[.int .i64 ((rd_T57 (rd_L7 aC aA) aI).f0),.int .i64 0,.int .i64 (wrap64 ((aQ.length : Int) - 1))] ?_;(with_reducible refine (spec_inRange.calls ((rd_T57 (rd_L7 aC aA) aI).f0) 0 (wrap64 ((aQ.length : Int) - 1)) false _ mC.out).mono ?_);rintro e w' ⟨rfl,⟨nd,rfl⟩⟩;refine ⟨_,rfl,?_⟩))
              go_ret
              exact ⟨Z12,Z8 aE.out a4.out⟩
            ·rw [if_neg fA] at H
             exact absurd H (by simp)
           ·rw [if_neg eE] at H
            have eK:=df eE;clear eE;have H':=A_ H;clear H;obtain ⟨kA,kB,kC,kD,kE,kF,kG,kH,kI,kJ,kK,kL,kM,kN,kO,kP,kQ,kR,kS,kT⟩:=C10 aB.out;have aW : 0 ≤ (aA : Int):=odt;have aX : aA < (aC.length : Int):=odt;obtain ⟨bC,b6,b7,b8,aD,aF,aG⟩:=at_L7 aY.out aA aW aX;obtain rfl : aT = bC:=(by injection b8);replace aD:=ZC HB.out aD;have bK:=A_ aG;have bL:=A_ aF;clear aG aF;replace aW:=eq_true aW;replace aX:=eq_true aX
            go_wp2
            go_roundg k2
            case measure => have:=eN.out;have:=HK2.out;omega
            case rel => exact ⟨(wrap64 (aA + 1)),Z22,H',⟨by have:=eN.out;have:=HK2.out;omega⟩,⟨Z1 aB.out⟩,⟨Z3 aE.out⟩⟩
          ·rw [if_neg e9] at H
           exact absurd H (by simp)
         ·rw [if_neg e8] at H
          exact absurd H (by simp)
     ·rw [if_neg c8] at H
      exact absurd H (by simp)
    ·rw [if_neg c7] at H
     have eH:=df c7;clear c7;obtain rfl:=Option.some.inj H;obtain ⟨kU,kV,kW,kX,kY,kZ,k0,k3,k4,k5,k6,k7,k8,k9,lA,lB,lC,lD,lE,lF⟩:=C10 aB.out
     go_wp2
     go_ret
     exact ⟨Z12,Z3 aE.out⟩
def spec_tmpls.j0 : Nat → Int → Bool → Option (Int × Int)
 | 0,_,_ => none
 | k + 1,x4,x5 => if x5 = true then (some (0,0)) else (if x4 = 2 then (some (1,2)) else (if x4 = 3 then (some (1,1)) else (some (0,4))))
def spec_tmpls.f (k : Nat) (a0 : Int) : Option (Int × Int):=if a0 = 0 then (spec_tmpls.j0 k a0 (a0 == 0)) else (spec_tmpls.j0 k a0 (a0 == 4))
theorem spec_tmpls.calls (k : Nat) (a0 : Int) (r1 : Int) (r2 : Int) (w : World) (h : spec_tmpls.f k a0 = some (r1,r2)) :
  Calls Try.prog 41 #[.int .i64 a0] w fun e w' => e = .returned (.tuple #[.int .i64 r1,.int .i64 r2]) ∧ Drawn0 w w':=by
 have H:=h;unfold spec_tmpls.f at H;clear h;have aC:=A_ H;clear H
 go_enter Try.func41,Try.ntmps41
 go_upto_if 5 with (fail)
 go_cut [5] (fun v5 wc => ∃ (kq : Nat) (aB : Bool),v5 = .bool aB ∧ Aside0 (spec_tmpls.j0 kq a0 aB = some (r1,r2)) ∧ Aside0 (kq ≤ k) ∧ Drawn0 w wc)
 case first =>
  have H:=aC.out;clear aC
  by_cases c3 : a0 = 0
  ·rw [if_pos c3] at H
   have aA:=e_t c3;have aD:=n_f c3;clear c3;(first | rw [aA] | (simp only [i64_w,i32_w];rw [aA]) | skip);have H':=A_ H;clear H
   go_wp2
   go_meet
   case rel => exact ⟨_,((a0 == 0)),Z22,H',⟨Z47⟩,Z34⟩
  ·rw [if_neg c3] at H
   have aA:=e_f c3;have aD:=n_t c3;(first | rw [aA] | (simp only [i64_w,i32_w];rw [aA]) | skip);have H':=A_ H;clear H
   go_wp2
   go_meet
   case rel => exact ⟨_,((a0 == 4)),Z22,H',⟨Z47⟩,Z34⟩
 case rest =>
  clear aC;obtain ⟨kq,aB,rfl,HA,aI,⟨aJ,rfl⟩⟩:=hcut
  cases kq with
  | zero => exact absurd HA.out (by simp [spec_tmpls.j0])
  | succ aK =>
   have H:=HA.out;clear HA;simp only [spec_tmpls.j0] at H
   by_cases c4 : aB = true
   ·subst c4
    rw [if_pos rfl] at H;simp only [Option.some.injEq,Prod.mk.injEq] at H;obtain ⟨rfl,rfl⟩:=H
    go_wp2
    go_ret2
    exact ⟨Z22,Z34⟩
   ·replace c4:=Bool.eq_false_iff.mpr c4
    subst c4;rw [if_neg (show ¬ (false = true) by decide)] at H
    by_cases c5 : a0 = 2
    ·rw [if_pos c5] at H
     have aE:=e_t c5;have aF:=n_f c5;clear c5;simp only [Option.some.injEq,Prod.mk.injEq] at H;obtain ⟨rfl,rfl⟩:=H
     go_wp2
     go_ret2
     exact ⟨Z22,Z34⟩
    ·rw [if_neg c5] at H
     have aE:=e_f c5;have aF:=n_t c5
     by_cases c6 : a0 = 3
     ·rw [if_pos c6] at H
      have aG:=e_t c6;have aH:=n_f c6;clear c6;simp only [Option.some.injEq,Prod.mk.injEq] at H;obtain ⟨rfl,rfl⟩:=H
      go_wp2
      go_ret2
      exact ⟨Z22,Z34⟩
     ·rw [if_neg c6] at H
      have aG:=e_f c6;have aH:=n_t c6;simp only [Option.some.injEq,Prod.mk.injEq] at H;obtain ⟨rfl,rfl⟩:=H
      go_wp2
      go_ret2
      exact ⟨Z22,Z34⟩
end Go.Proofs.Ytmgdjmeoljepgaa.PFnProgBelow
