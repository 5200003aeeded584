/- Walks (lines of the print; no condition). -/
import Derived.Test.YtmgdjmeoljepgaaZFnProgBelowQFnProgBelowx1
import Derived.Test.YtmgdjmeoljepgaaZFnProgBelowQFnProgBelowx2
namespace Go.Proofs.Ytmgdjmeoljepgaa.PFnProgBelow
open Go.RowKit Go.Proofs.YtmgdjmeoljepgaaW.PrintWords Go.Proofs.YtmgdjmeoljepgaaW.PrintLast Go.Proofs.YtmgdjmeoljepgaaW.PrintMore
attribute [local go_sem] max2_int min2_int max_two min_two max_three min_three max_four min_four
set_option linter.unusedVariables false
set_option linter.unusedSimpArgs false
set_option maxHeartbeats 8000000
set_option maxRecDepth 100000
attribute [local go_sem high] eqA67
def spec_validStep.f (k : Nat) (aA : Int) (aB : Int) (aC : Int) (aD : Int) (aE : ByteArray) (a1 : Int) (a2 : Int) (a3 : Int) : Option (Bool):=if aA = 0 then (if aB = 0 then ((spec_validValue.f k aC aD aE).bind fun aF => (some aF)) else (some false)) else (if aA = 1 then ((spec_inRange.f aB 0 (wrap64 (a1 - 1))).bind fun aG => (if aG = true then (some (aC == 0 && (aD == 0 && (aE.toList == ([] : List UInt8))))) else (some false))) else (if aA = 2 then ((spec_inRange.f aB 0 (wrap64 (a2 - 1))).bind fun aH => (if aH = true then (some (aC == 0 && (aD == 0 && (aE.toList == ([] : List UInt8))))) else (some false))) else (if aA = 3 then ((spec_inRange.f aB 0 (wrap64 (a3 - 1))).bind fun aI => (if aI = true then (some (aC == 0 && (aD == 0 && (aE.toList == ([] : List UInt8))))) else (some false))) else (if aA = 4 then ((spec_inRange.f aB 0 1).bind fun aJ => (if aJ = true then (some (aC == 0 && (aD == 0 && (aE.toList == ([] : List UInt8))))) else (some false))) else (if aA = 5 then ((spec_inRange.f aB 0 6).bind fun aK => (if aK = true then (some (aC == 0 && (aD == 0 && (aE.toList == ([] : List UInt8))))) else (some false))) else (if aA = 6 then (if aB = 0 then (some (aC == 0 && (aD == 0 && (aE.toList == ([] : List UInt8))))) else (some false)) else (some false)))))))
theorem spec_validStep.calls (k : Nat) (aA : Int) (aB : Int) (aG : Int) (aH : Int) (aI : ByteArray) (a1 : Int) (a2 : Int) (a3 : Int) (r : Bool) (w : World) (h : spec_validStep.f k aA aB aG aH aI a1 a2 a3 = some r) :
  Calls Try.prog 49 #[.agg #[.int .i64 aA,.int .i64 aB,.int .i64 aG,.int .i64 aH,.string aI],.int .i64 a1,.int .i64 a2,.int .i64 a3] w fun e w' => e = .returned (.bool r) ∧ Below w.heap.size w w':=by
 have gM:=Try.underlying70;have gN:=Try.underlying67;have HB:=A_ (Below.refl w.heap.size w);have H:=h;unfold spec_validStep.f at H;clear h
 by_cases c5 : aA = 0
 ·rw [if_pos c5] at H
  have fO:=e_t c5;have fP:=n_f c5;clear c5
  by_cases c6 : aB = 0
  ·rw [if_pos c6] at H
   have fQ:=e_t c6;have fR:=n_f c6;clear c6;replace H:=bS H;obtain ⟨fS,gF,H⟩:=H
   try dsimp only at H
   have A7:=A_ gF;clear gF;obtain rfl:=Option.some.inj H
   go_enter Try.func49,Try.ntmps49
   go_wp2_with (first | ((with_reducible refine gate_dst (N:=4) rfl ?_);refine be (cs:=#[.int .i64 aA,.int .i64 aB,.int .i64 aG,.int .i64 aH,.string aI]) (t:=70) ?_;intro aF hg w8 hbox hb;have aC:=A_ hbox;have aE:=A_ (gl hg (bz Z2));have aD:=aE;replace HB:=A_ (bst Z2 hb);clear hb hbox hg;obtain ⟨fT,fU,fV,fW,fX,fY,fZ,f7,f8,f9⟩:=C5 aC.out) | (go_at_call 39;(with_reducible refine (spec_validValue.calls k aG aH aI fS _ A7.out).mono ?_);rintro e gO ⟨rfl,hb⟩;replace aC:=A_ (bb (Z1 aC.out) hb);replace HB:=A_ (bst (Z3 aD.out) hb);(try clear hb)))
   go_ret
   exact ⟨Z12,Z3 aD.out⟩
  ·rw [if_neg c6] at H
   have fQ:=e_f c6;have fR:=n_t c6;obtain rfl:=Option.some.inj H
   go_enter Try.func49,Try.ntmps49
   go_wp2_with (first | ((with_reducible refine gate_dst (N:=4) rfl ?_);refine be (cs:=#[.int .i64 aA,.int .i64 aB,.int .i64 aG,.int .i64 aH,.string aI]) (t:=70) ?_;intro aF hg gP hbox hb;have aC:=A_ hbox;have aE:=A_ (gl hg (bz Z2));have aD:=aE;replace HB:=A_ (bst Z2 hb);clear hb hbox hg;obtain ⟨bC,bD,bE,bF,bG,bH,bI,bJ,bK,bL⟩:=C5 aC.out))
   go_ret
   exact ⟨Z12,Z3 aD.out⟩
 ·rw [if_neg c5] at H
  have fO:=e_f c5;have fP:=n_t c5
  by_cases aJ : aA = 1
  ·rw [if_pos aJ] at H
   have aQ:=e_t aJ;have aR:=n_f aJ;clear aJ;replace H:=bS H;obtain ⟨gA,aS,H⟩:=H
   try dsimp only at H
   have gG:=A_ aS;clear aS
   by_cases bM : gA = true
   ·subst bM
    rw [if_pos rfl] at H;obtain rfl:=Option.some.inj H
    go_enter Try.func49,Try.ntmps49
    go_wp2_with (first | ((with_reducible refine gate_dst (N:=4) rfl ?_);refine be (cs:=#[.int .i64 aA,.int .i64 aB,.int .i64 aG,.int .i64 aH,.string aI]) (t:=70) ?_;intro aF hg gQ hbox hb;have aC:=A_ hbox;have aE:=A_ (gl hg (bz Z2));have aD:=aE;replace HB:=A_ (bst Z2 hb);clear hb hbox hg;obtain ⟨bN,bO,bP,bQ,bR,bT,bU,bV,bW,bX⟩:=C5 aC.out) | ((with_reducible refine gate_callee (f:=17) rfl ?_);refine gL 27 Try.func17 #[.int .i64 aB,.int .i64 0,.int .i64 (wrap64 (a1 - 1))] ?_;(with_reducible refine (spec_inRange.calls aB 0 (wrap64 (a1 - 1)) true _ gG.out).mono ?_);rintro e w' ⟨rfl,⟨nd,rfl⟩⟩;refine ⟨_,rfl,?_⟩))
    go_ret
    exact ⟨Z12,Z3 aD.out⟩
   ·replace bM:=Bool.eq_false_iff.mpr bM
    subst bM;rw [if_neg (show ¬ (false = true) by decide)] at H;obtain rfl:=Option.some.inj H
    go_enter Try.func49,Try.ntmps49
    go_wp2_with (first | ((with_reducible refine gate_dst (N:=4) rfl ?_);refine be (cs:=#[.int .i64 aA,.int .i64 aB,.int .i64 aG,.int .i64 aH,.string aI]) (t:=70) ?_;intro aF hg gR hbox hb;have aC:=A_ hbox;have aE:=A_ (gl hg (bz Z2));have aD:=aE;replace HB:=A_ (bst Z2 hb);clear hb hbox hg;obtain ⟨bY,bZ,b0,b1,b2,b3,b4,b5,b6,b7⟩:=C5 aC.out) | ((with_reducible refine gate_callee (f:=17) rfl ?_);refine gL 27 Try.func17 #[.int .i64 aB,.int .i64 0,.int .i64 (wrap64 (a1 - 1))] ?_;(with_reducible refine (spec_inRange.calls aB 0 (wrap64 (a1 - 1)) false _ gG.out).mono ?_);rintro e w' ⟨rfl,⟨nd,rfl⟩⟩;refine ⟨_,rfl,?_⟩))
    go_ret
    exact ⟨Z12,Z3 aD.out⟩
  ·rw [if_neg aJ] at H
   have aQ:=e_f aJ;have aR:=n_t aJ
   by_cases aK : aA = 2
   ·rw [if_pos aK] at H
    have aT:=e_t aK;have aU:=n_f aK;clear aK;replace H:=bS H;obtain ⟨gB,aV,H⟩:=H
    try dsimp only at H
    have gH:=A_ aV;clear aV
    by_cases b8 : gB = true
    ·subst b8
     rw [if_pos rfl] at H;obtain rfl:=Option.some.inj H
     go_enter Try.func49,Try.ntmps49
     go_wp2_with (first | ((with_reducible refine gate_dst (N:=4) rfl ?_);refine be (cs:=#[.int .i64 aA,.int .i64 aB,.int .i64 aG,.int .i64 aH,.string aI]) (t:=70) ?_;intro aF hg gS hbox hb;have aC:=A_ hbox;have aE:=A_ (gl hg (bz Z2));have aD:=aE;replace HB:=A_ (bst Z2 hb);clear hb hbox hg;obtain ⟨b9,cA,cB,cC,cD,cE,cF,cG,cH,cI⟩:=C5 aC.out) | ((with_reducible refine gate_callee (f:=17) rfl ?_);refine gL 40 Try.func17 #[.int .i64 aB,.int .i64 0,.int .i64 (wrap64 (a2 - 1))] ?_;(with_reducible refine (spec_inRange.calls aB 0 (wrap64 (a2 - 1)) true _ gH.out).mono ?_);rintro e w' ⟨rfl,⟨nd,rfl⟩⟩;refine ⟨_,rfl,?_⟩))
     go_ret
     exact ⟨Z12,Z3 aD.out⟩
    ·replace b8:=Bool.eq_false_iff.mpr b8
     subst b8;rw [if_neg (show ¬ (false = true) by decide)] at H;obtain rfl:=Option.some.inj H
     go_enter Try.func49,Try.ntmps49
     go_wp2_with (first | ((with_reducible refine gate_dst (N:=4) rfl ?_);refine be (cs:=#[.int .i64 aA,.int .i64 aB,.int .i64 aG,.int .i64 aH,.string aI]) (t:=70) ?_;intro aF hg gT hbox hb;have aC:=A_ hbox;have aE:=A_ (gl hg (bz Z2));have aD:=aE;replace HB:=A_ (bst Z2 hb);clear hb hbox hg;obtain ⟨cJ,cK,cL,cM,cN,cO,cP,cQ,cR,cS⟩:=C5 aC.out) | ((with_reducible refine gate_callee (f:=17) rfl ?_);refine gL 40 Try.func17 #[.int .i64 aB,.int .i64 0,.int .i64 (wrap64 (a2 - 1))] ?_;(with_reducible refine (spec_inRange.calls aB 0 (wrap64 (a2 - 1)) false _ gH.out).mono ?_);rintro e w' ⟨rfl,⟨nd,rfl⟩⟩;refine ⟨_,rfl,?_⟩))
     go_ret
     exact ⟨Z12,Z3 aD.out⟩
   ·rw [if_neg aK] at H
    have aT:=e_f aK;have aU:=n_t aK
    by_cases aL : aA = 3
    ·rw [if_pos aL] at H
     have aW:=e_t aL;have aX:=n_f aL;clear aL;replace H:=bS H;obtain ⟨gC,aY,H⟩:=H
     try dsimp only at H
     have gI:=A_ aY;clear aY
     by_cases cT : gC = true
     ·subst cT
      rw [if_pos rfl] at H;obtain rfl:=Option.some.inj H
      go_enter Try.func49,Try.ntmps49
      go_wp2_with (first | ((with_reducible refine gate_dst (N:=4) rfl ?_);refine be (cs:=#[.int .i64 aA,.int .i64 aB,.int .i64 aG,.int .i64 aH,.string aI]) (t:=70) ?_;intro aF hg gU hbox hb;have aC:=A_ hbox;have aE:=A_ (gl hg (bz Z2));have aD:=aE;replace HB:=A_ (bst Z2 hb);clear hb hbox hg;obtain ⟨cU,cV,cW,cX,cY,cZ,dA,dB,dC,dD⟩:=C5 aC.out) | ((with_reducible refine gate_callee (f:=17) rfl ?_);refine gL 53 Try.func17 #[.int .i64 aB,.int .i64 0,.int .i64 (wrap64 (a3 - 1))] ?_;(with_reducible refine (spec_inRange.calls aB 0 (wrap64 (a3 - 1)) true _ gI.out).mono ?_);rintro e w' ⟨rfl,⟨nd,rfl⟩⟩;refine ⟨_,rfl,?_⟩))
      go_ret
      exact ⟨Z12,Z3 aD.out⟩
     ·replace cT:=Bool.eq_false_iff.mpr cT
      subst cT;rw [if_neg (show ¬ (false = true) by decide)] at H;obtain rfl:=Option.some.inj H
      go_enter Try.func49,Try.ntmps49
      go_wp2_with (first | ((with_reducible refine gate_dst (N:=4) rfl ?_);refine be (cs:=#[.int .i64 aA,.int .i64 aB,.int .i64 aG,.int .i64 aH,.string aI]) (t:=70) ?_;intro aF hg gV hbox hb;have aC:=A_ hbox;have aE:=A_ (gl hg (bz Z2));have aD:=aE;replace HB:=A_ (bst Z2 hb);clear hb hbox hg;obtain ⟨dE,dF,dG,dH,dI,dJ,dK,dL,dM,dN⟩:=C5 aC.out) | ((with_reducible refine gate_callee (f:=17) rfl ?_);refine gL 53 Try.func17 #[.int .i64 aB,.int .i64 0,.int .i64 (wrap64 (a3 - 1))] ?_;(with_reducible refine (spec_inRange.calls aB 0 (wrap64 (a3 - 1)) false _ gI.out).mono ?_);rintro e w' ⟨rfl,⟨nd,rfl⟩⟩;refine ⟨_,rfl,?_⟩))
      go_ret
      exact ⟨Z12,Z3 aD.out⟩
    ·rw [if_neg aL] at H
     have aW:=e_f aL;have aX:=n_t aL
     by_cases aM : aA = 4
     ·rw [if_pos aM] at H
      have aZ:=e_t aM;have a0:=n_f aM;clear aM;replace H:=bS H;obtain ⟨gD,a4,H⟩:=H
      try dsimp only at H
      have gJ:=A_ a4;clear a4
      by_cases dO : gD = true
      ·subst dO
       rw [if_pos rfl] at H;obtain rfl:=Option.some.inj H
       go_enter Try.func49,Try.ntmps49
       go_wp2_with (first | ((with_reducible refine gate_dst (N:=4) rfl ?_);refine be (cs:=#[.int .i64 aA,.int .i64 aB,.int .i64 aG,.int .i64 aH,.string aI]) (t:=70) ?_;intro aF hg gW hbox hb;have aC:=A_ hbox;have aE:=A_ (gl hg (bz Z2));have aD:=aE;replace HB:=A_ (bst Z2 hb);clear hb hbox hg;obtain ⟨dP,dQ,dR,dS,dT,dU,dV,dW,dX,dY⟩:=C5 aC.out) | ((with_reducible refine gate_callee (f:=17) rfl ?_);refine gL 64 Try.func17 #[.int .i64 aB,.int .i64 0,.int .i64 1] ?_;(with_reducible refine (spec_inRange.calls aB 0 1 true _ gJ.out).mono ?_);rintro e w' ⟨rfl,⟨nd,rfl⟩⟩;refine ⟨_,rfl,?_⟩))
       go_ret
       exact ⟨Z12,Z3 aD.out⟩
      ·replace dO:=Bool.eq_false_iff.mpr dO
       subst dO;rw [if_neg (show ¬ (false = true) by decide)] at H;obtain rfl:=Option.some.inj H
       go_enter Try.func49,Try.ntmps49
       go_wp2_with (first | ((with_reducible refine gate_dst (N:=4) rfl ?_);refine be (cs:=#[.int .i64 aA,.int .i64 aB,.int .i64 aG,.int .i64 aH,.string aI]) (t:=70) ?_;intro aF hg gX hbox hb;have aC:=A_ hbox;have aE:=A_ (gl hg (bz Z2));have aD:=aE;replace HB:=A_ (bst Z2 hb);clear hb hbox hg;obtain ⟨dZ,d0,d1,d2,d3,d4,d5,d6,d7,d8⟩:=C5 aC.out) | ((with_reducible refine gate_callee (f:=17) rfl ?_);refine gL 64 Try.func17 #[.int .i64 aB,.int .i64 0,.int .i64 1] ?_;(with_reducible refine (spec_inRange.calls aB 0 1 false _ gJ.out).mono ?_);rintro e w' ⟨rfl,⟨nd,rfl⟩⟩;refine ⟨_,rfl,?_⟩))
       go_ret
       exact ⟨Z12,Z3 aD.out⟩
     ·rw [if_neg aM] at H
      have aZ:=e_f aM;have a0:=n_t aM
      by_cases aN : aA = 5
      ·rw [if_pos aN] at H
       have a5:=e_t aN;have a6:=n_f aN;clear aN;replace H:=bS H;obtain ⟨gE,a7,H⟩:=H
       try dsimp only at H
       have gK:=A_ a7;clear a7
       by_cases d9 : gE = true
       ·subst d9
        rw [if_pos rfl] at H;obtain rfl:=Option.some.inj H
        go_enter Try.func49,Try.ntmps49
        go_wp2_with (first | ((with_reducible refine gate_dst (N:=4) rfl ?_);refine be (cs:=#[.int .i64 aA,.int .i64 aB,.int .i64 aG,.int .i64 aH,.string aI]) (t:=70) ?_;intro aF hg gY hbox hb;have aC:=A_ hbox;have aE:=A_ (gl hg (bz Z2));have aD:=aE;replace HB:=A_ (bst Z2 hb);clear hb hbox hg;obtain ⟨eA,eB,eC,eD,eE,eF,eG,eH,eI,eJ⟩:=C5 aC.out) | ((with_reducible refine gate_callee (f:=17) rfl ?_);refine gL 75 Try.func17 #[.int .i64 aB,.int .i64 0,.int .i64 6] ?_;(with_reducible refine (spec_inRange.calls aB 0 6 true _ gK.out).mono ?_);rintro e w' ⟨rfl,⟨nd,rfl⟩⟩;refine ⟨_,rfl,?_⟩))
        go_ret
        exact ⟨Z12,Z3 aD.out⟩
       ·replace d9:=Bool.eq_false_iff.mpr d9
        subst d9;rw [if_neg (show ¬ (false = true) by decide)] at H;obtain rfl:=Option.some.inj H
        go_enter Try.func49,Try.ntmps49
        go_wp2_with (first | ((with_reducible refine gate_dst (N:=4) rfl ?_);refine be (cs:=#[.int .i64 aA,.int .i64 aB,.int .i64 aG,.int .i64 aH,.string aI]) (t:=70) ?_;intro aF hg gZ hbox hb;have aC:=A_ hbox;have aE:=A_ (gl hg (bz Z2));have aD:=aE;replace HB:=A_ (bst Z2 hb);clear hb hbox hg;obtain ⟨eK,eL,eM,eN,eO,eP,eQ,eR,eS,eT⟩:=C5 aC.out) | ((with_reducible refine gate_callee (f:=17) rfl ?_);refine gL 75 Try.func17 #[.int .i64 aB,.int .i64 0,.int .i64 6] ?_;(with_reducible refine (spec_inRange.calls aB 0 6 false _ gK.out).mono ?_);rintro e w' ⟨rfl,⟨nd,rfl⟩⟩;refine ⟨_,rfl,?_⟩))
        go_ret
        exact ⟨Z12,Z3 aD.out⟩
      ·rw [if_neg aN] at H
       have a5:=e_f aN;have a6:=n_t aN
       by_cases aO : aA = 6
       ·rw [if_pos aO] at H
        have a8:=e_t aO;have a9:=n_f aO;clear aO
        by_cases aP : aB = 0
        ·rw [if_pos aP] at H
         have bA:=e_t aP;have bB:=n_f aP;clear aP;obtain rfl:=Option.some.inj H
         go_enter Try.func49,Try.ntmps49
         go_wp2_with (first | ((with_reducible refine gate_dst (N:=4) rfl ?_);refine be (cs:=#[.int .i64 aA,.int .i64 aB,.int .i64 aG,.int .i64 aH,.string aI]) (t:=70) ?_;intro aF hg hD hbox hb;have aC:=A_ hbox;have aE:=A_ (gl hg (bz Z2));have aD:=aE;replace HB:=A_ (bst Z2 hb);clear hb hbox hg;obtain ⟨eU,eV,eW,eX,eY,eZ,e0,e1,e2,e3⟩:=C5 aC.out))
         go_ret
         exact ⟨Z12,Z3 aD.out⟩
        ·rw [if_neg aP] at H
         have bA:=e_f aP;have bB:=n_t aP;obtain rfl:=Option.some.inj H
         go_enter Try.func49,Try.ntmps49
         go_wp2_with (first | ((with_reducible refine gate_dst (N:=4) rfl ?_);refine be (cs:=#[.int .i64 aA,.int .i64 aB,.int .i64 aG,.int .i64 aH,.string aI]) (t:=70) ?_;intro aF hg hI hbox hb;have aC:=A_ hbox;have aE:=A_ (gl hg (bz Z2));have aD:=aE;replace HB:=A_ (bst Z2 hb);clear hb hbox hg;obtain ⟨e4,e5,e6,e7,e8,e9,fA,fB,fC,fD⟩:=C5 aC.out))
         go_ret
         exact ⟨Z12,Z3 aD.out⟩
       ·rw [if_neg aO] at H
        have a8:=e_f aO;have a9:=n_t aO;obtain rfl:=Option.some.inj H
        go_enter Try.func49,Try.ntmps49
        go_wp2_with (first | ((with_reducible refine gate_dst (N:=4) rfl ?_);refine be (cs:=#[.int .i64 aA,.int .i64 aB,.int .i64 aG,.int .i64 aH,.string aI]) (t:=70) ?_;intro aF hg hJ hbox hb;have aC:=A_ hbox;have aE:=A_ (gl hg (bz Z2));have aD:=aE;replace HB:=A_ (bst Z2 hb);clear hb hbox hg;obtain ⟨fE,fF,fG,fH,fI,fJ,fK,fL,fM,fN⟩:=C5 aC.out))
        go_ret
        exact ⟨Z12,Z3 aD.out⟩
def spec_takes.f (aA : Int) (aB : Int) (aC : Int) (aD : Int) (aE : ByteArray) : Option (Int):=if aA = 5 then (some 2) else (if aA = 6 then (some 3) else (some 0))
theorem spec_takes.calls (aA : Int) (aE : Int) (aF : Int) (aG : Int) (aH : ByteArray) (r : Int) (w : World) (h : spec_takes.f aA aE aF aG aH = some r) :
  Calls Try.prog 50 #[.agg #[.int .i64 aA,.int .i64 aE,.int .i64 aF,.int .i64 aG,.string aH]] w fun e w' => e = .returned (.int .i64 r) ∧ Below w.heap.size w w':=by
 have bI:=Try.underlying70;have HB:=A_ (Below.refl w.heap.size w);have H:=h;unfold spec_takes.f at H;clear h
 by_cases c2 : aA = 5
 ·rw [if_pos c2] at H
  have aJ:=e_t c2;have aK:=n_f c2;clear c2;obtain rfl:=Option.some.inj H
  go_enter Try.func50,Try.ntmps50
  go_wp2_with (first | ((with_reducible refine gate_dst (N:=1) rfl ?_);refine be (cs:=#[.int .i64 aA,.int .i64 aE,.int .i64 aF,.int .i64 aG,.string aH]) (t:=70) ?_;intro aI hg w3 hbox hb;have aB:=A_ hbox;have aC:=A_ (gl hg (bz Z2));have aD:=aC;replace HB:=A_ (bst Z2 hb);clear hb hbox hg;obtain ⟨aL,aM,aN,aO,aP,aQ,aR,aS,aT,aU⟩:=C5 aB.out))
  go_ret
  exact ⟨Z12,Z3 aD.out⟩
 ·rw [if_neg c2] at H
  have aJ:=e_f c2;have aK:=n_t c2
  by_cases c5 : aA = 6
  ·rw [if_pos c5] at H
   have aV:=e_t c5;have aW:=n_f c5;clear c5;obtain rfl:=Option.some.inj H
   go_enter Try.func50,Try.ntmps50
   go_wp2_with (first | ((with_reducible refine gate_dst (N:=1) rfl ?_);refine be (cs:=#[.int .i64 aA,.int .i64 aE,.int .i64 aF,.int .i64 aG,.string aH]) (t:=70) ?_;intro aI hg w6 hbox hb;have aB:=A_ hbox;have aC:=A_ (gl hg (bz Z2));have aD:=aC;replace HB:=A_ (bst Z2 hb);clear hb hbox hg;obtain ⟨aX,aY,aZ,a0,a2,a3,a4,a5,a6,a7⟩:=C5 aB.out))
   go_ret
   exact ⟨Z12,Z3 aD.out⟩
  ·rw [if_neg c5] at H
   have aV:=e_f c5;have aW:=n_t c5;obtain rfl:=Option.some.inj H
   go_enter Try.func50,Try.ntmps50
   go_wp2_with (first | ((with_reducible refine gate_dst (N:=1) rfl ?_);refine be (cs:=#[.int .i64 aA,.int .i64 aE,.int .i64 aF,.int .i64 aG,.string aH]) (t:=70) ?_;intro aI hg w8 hbox hb;have aB:=A_ hbox;have aC:=A_ (gl hg (bz Z2));have aD:=aC;replace HB:=A_ (bst Z2 hb);clear hb hbox hg;obtain ⟨a8,a9,bA,bB,bC,bD,bE,bF,bG,bH⟩:=C5 aB.out))
   go_ret
   exact ⟨Z12,Z3 aD.out⟩
def spec_validForm.l0 : Nat → List (S70) → Int → Int → Int → Int → Int → Option (Bool)
 | 0,_,_,_,_,_,_ => none
 | k + 1,x0,x1,x2,x3,x9,aA => if aA < (x0.length : Int) then (if 0 ≤ aA then ((spec_validStep.f k ((rd_T70 x0 aA).f0) ((rd_T70 x0 aA).f1) ((rd_T70 x0 aA).f2.f0) ((rd_T70 x0 aA).f2.f1) ((rd_T70 x0 aA).f2.f2) x1 x2 x3).bind fun aB => (if aB = true then ((spec_takes.f ((rd_T70 x0 aA).f0) ((rd_T70 x0 aA).f1) ((rd_T70 x0 aA).f2.f0) ((rd_T70 x0 aA).f2.f1) ((rd_T70 x0 aA).f2.f2)).bind fun aC => (if x9 < aC then (some false) else ((spec_takes.f ((rd_T70 x0 aA).f0) ((rd_T70 x0 aA).f1) ((rd_T70 x0 aA).f2.f0) ((rd_T70 x0 aA).f2.f1) ((rd_T70 x0 aA).f2.f2)).bind fun aD => (spec_validForm.l0 k x0 x1 x2 x3 (wrap64 ((wrap64 (x9 - aD)) + 1)) (wrap64 (aA + 1)))))) else (some false))) else (none)) else (some (x9 == 1))
def spec_validForm.f (k : Nat) (l0 : List (S70)) (a1 : Int) (a2 : Int) (a3 : Int) : Option (Bool):=if (l0.length : Int) > 9 then (some false) else (spec_validForm.l0 k l0 a1 a2 a3 0 0)
theorem spec_validForm.calls (k : Nat) (A0 : Option Addr) (c0 : Nat) (l0 : List (S70)) (a1 : Int) (a2 : Int) (a3 : Int) (r : Bool) (w : World) (bH : Kd.C k70 w A0 l0.length l0) (hc0 : l0.length ≤ c0) (h : spec_validForm.f k l0 a1 a2 a3 = some r) :
  Calls Try.prog 40 #[.slice A0 l0.length c0,.int .i64 a1,.int .i64 a2,.int .i64 a3] w fun e w' => e = .returned (.bool r) ∧ Below w.heap.size w w':=by
 have bL:=Try.underlying70;have a5:=A_ bH;have bP:=A_ hc0;clear bH hc0;have HB:=A_ (Below.refl w.heap.size w);have H:=h;unfold spec_validForm.f at H;clear h
 by_cases c5 : (l0.length : Int) > 9
 ·rw [if_pos c5] at H
  have a7 : decide (9 < (l0.length : Int)) = true:=dt c5;have a8 : decide (9 < l0.length) = true:=dt (by omega);clear c5;obtain rfl:=Option.some.inj H
  go_enter Try.func40,Try.ntmps40
  go_wp2
  go_ret
  exact ⟨Z12,Z2⟩
 ·rw [if_neg c5] at H
  have a7 : decide (9 < (l0.length : Int)) = false:=df c5;have a8 : decide (9 < l0.length) = false:=df (by omega);clear c5;have H':=A_ H;clear H
  go_enter Try.func40,Try.ntmps40
  go_wp2
  go_loopg [9,10] k (fun kq v9 bM w' => ∃ (aV : Int) (aA : Int),v9 = .int .i64 aV ∧ bM = .int .i64 aA ∧ Aside0 (spec_validForm.l0 kq l0 a1 a2 a3 aV aA = some r) ∧ Aside0 (kq ≤ k) ∧ Aside0 (Below w.heap.size w w'))
  case atStart => exact ⟨(0),(0),Z22,Z22,H',⟨Nat.le_refl _⟩,⟨Z2⟩⟩
  case round =>
   clear H' a7 a8;obtain ⟨aV,aA,rfl,rfl,HA,bI,HB⟩:=hrel
   cases gk with
   | zero => exact absurd HA.out (by simp [spec_validForm.l0])
   | succ k1 =>
    have H:=HA.out;clear HA;simp only [spec_validForm.l0] at H
    by_cases c6 : aA < (l0.length : Int)
    ·rw [if_pos c6] at H
     have bE:=dt c6;clear c6
     by_cases c7 : 0 ≤ aA
     ·rw [if_pos c7] at H
      have bN:=dt c7;clear c7;replace H:=bS H;obtain ⟨bF,bJ,H⟩:=H
      try dsimp only at H
      have A8:=A_ bJ;clear bJ
      by_cases c9 : bF = true
      ·subst c9
       rw [if_pos rfl] at H;replace H:=bS H;obtain ⟨aY,a9,H⟩:=H
       try dsimp only at H
       have bK:=A_ a9;clear a9
       by_cases a6 : aV < aY
       ·rw [if_pos a6] at H
        have bA:=dt a6;clear a6;obtain rfl:=Option.some.inj H;have aL : 0 ≤ (aA : Int):=odt;have aM : aA < (l0.length : Int):=odt;obtain ⟨aN,aW,aB,aC,aD,aE,aF⟩:=at_T70 a5.out aA aL aM;cases aW;replace aB:=ZC HB.out aB;replace aC:=ZC HB.out aC;replace aD:=ZC HB.out aD;replace aE:=ZC HB.out aE;replace aF:=ZC HB.out aF;replace aL:=eq_true aL;replace aM:=eq_true aM
        go_wp2_with (first | ((with_reducible refine gate_callee (f:=49) rfl ?_);refine gL 27 Try.func49 #[.agg #[.int .i64 ((rd_T70 l0 aA).f0),.int .i64 ((rd_T70 l0 aA).f1),.int .i64 ((rd_T70 l0 aA).f2.f0),.int .i64 ((rd_T70 l0 aA).f2.f1),.string ((rd_T70 l0 aA).f2.f2)],.int .i64 a1,.int .i64 a2,.int .i64 a3] ?_;(with_reducible refine (spec_validStep.calls k1 ((rd_T70 l0 aA).f0) ((rd_T70 l0 aA).f1) ((rd_T70 l0 aA).f2.f0) ((rd_T70 l0 aA).f2.f1) ((rd_T70 l0 aA).f2.f2) a1 a2 a3 true _ A8.out).mono ?_);rintro e bQ ⟨rfl,hb⟩;refine ⟨_,rfl,?_⟩;replace HB:=A_ (bst Z2 hb);(try clear hb);have aO : 0 ≤ (aA : Int):=odt;have aP : aA < (l0.length : Int):=odt;obtain ⟨aX,aZ,aG,aH,aI,aJ,aK⟩:=at_T70 a5.out aA aO aP;obtain rfl : aN = aX:=(by injection aZ);replace aG:=ZC HB.out aG;replace aH:=ZC HB.out aH;replace aI:=ZC HB.out aI;replace aJ:=ZC HB.out aJ;replace aK:=ZC HB.out aK;replace aO:=eq_true aO;replace aP:=eq_true aP) | (go_at_call 50;(with_reducible refine (spec_takes.calls ((rd_T70 l0 aA).f0) ((rd_T70 l0 aA).f1) ((rd_T70 l0 aA).f2.f0) ((rd_T70 l0 aA).f2.f1) ((rd_T70 l0 aA).f2.f2) aY _ bK.out).mono ?_);rintro e bR ⟨rfl,hb⟩;replace HB:=A_ (bst Z2 hb);(try clear hb)))
        go_ret
        exact ⟨Z12,Z2⟩
       ·rw [if_neg a6] at H
        have bA:=df a6;clear a6;replace H:=bS H;obtain ⟨bB,bC,H⟩:=H
        try dsimp only at H
        have bO:=A_ bC;clear bC;have H':=A_ H;clear H;have aL : 0 ≤ (aA : Int):=odt;have aM : aA < (l0.length : Int):=odt;obtain ⟨aN,aW,aB,aC,aD,aE,aF⟩:=at_T70 a5.out aA aL aM;cases aW;replace aB:=ZC HB.out aB;replace aC:=ZC HB.out aC;replace aD:=ZC HB.out aD;replace aE:=ZC HB.out aE;replace aF:=ZC HB.out aF;replace aL:=eq_true aL;replace aM:=eq_true aM
        go_wp2_with (first | ((with_reducible refine gate_callee (f:=49) rfl ?_);refine gL 27 Try.func49 #[.agg #[.int .i64 ((rd_T70 l0 aA).f0),.int .i64 ((rd_T70 l0 aA).f1),.int .i64 ((rd_T70 l0 aA).f2.f0),.int .i64 ((rd_T70 l0 aA).f2.f1),.string ((rd_T70 l0 aA).f2.f2)],.int .i64 a1,.int .i64 a2,.int .i64 a3] ?_;(with_reducible refine (spec_validStep.calls k1 ((rd_T70 l0 aA).f0) ((rd_T70 l0 aA).f1) ((rd_T70 l0 aA).f2.f0) ((rd_T70 l0 aA).f2.f1) ((rd_T70 l0 aA).f2.f2) a1 a2 a3 true _ A8.out).mono ?_);rintro e bT ⟨rfl,hb⟩;refine ⟨_,rfl,?_⟩;replace HB:=A_ (bst Z2 hb);(try clear hb);have aO : 0 ≤ (aA : Int):=odt;have aP : aA < (l0.length : Int):=odt;obtain ⟨aX,aZ,aG,aH,aI,aJ,aK⟩:=at_T70 a5.out aA aO aP;obtain rfl : aN = aX:=(by injection aZ);replace aG:=ZC HB.out aG;replace aH:=ZC HB.out aH;replace aI:=ZC HB.out aI;replace aJ:=ZC HB.out aJ;replace aK:=ZC HB.out aK;replace aO:=eq_true aO;replace aP:=eq_true aP) | (go_at_call 50;(with_reducible refine (spec_takes.calls ((rd_T70 l0 aA).f0) ((rd_T70 l0 aA).f1) ((rd_T70 l0 aA).f2.f0) ((rd_T70 l0 aA).f2.f1) ((rd_T70 l0 aA).f2.f2) aY _ bK.out).mono ?_);rintro e bU ⟨rfl,hb⟩;replace HB:=A_ (bst Z2 hb);(try clear hb);have a0 : 0 ≤ (aA : Int):=odt;have a4 : aA < (l0.length : Int):=odt;obtain ⟨bD,bG,aQ,aR,aS,aT,aU⟩:=at_T70 a5.out aA a0 a4;obtain rfl : aN = bD:=(by injection bG);replace aQ:=ZC HB.out aQ;replace aR:=ZC HB.out aR;replace aS:=ZC HB.out aS;replace aT:=ZC HB.out aT;replace aU:=ZC HB.out aU;replace a0:=eq_true a0;replace a4:=eq_true a4) | ((with_reducible refine gate_callee (f:=50) rfl ?_);refine gL 43 Try.func50 #[.agg #[.int .i64 ((rd_T70 l0 aA).f0),.int .i64 ((rd_T70 l0 aA).f1),.int .i64 ((rd_T70 l0 aA).f2.f0),.int .i64 ((rd_T70 l0 aA).f2.f1),.string ((rd_T70 l0 aA).f2.f2)]] ?_;(with_reducible refine (spec_takes.calls ((rd_T70 l0 aA).f0) ((rd_T70 l0 aA).f1) ((rd_T70 l0 aA).f2.f0) ((rd_T70 l0 aA).f2.f1) ((rd_T70 l0 aA).f2.f2) bB _ bO.out).mono ?_);rintro e bV ⟨rfl,hb⟩;refine ⟨_,rfl,?_⟩;replace HB:=A_ (bst Z2 hb);(try clear hb)))
        go_roundg k1
        case measure => have:=bI.out;omega
        case rel => exact ⟨(wrap64 ((wrap64 (aV - bB)) + 1)),(wrap64 (aA + 1)),Z22,Z22,H',⟨by have:=bI.out;omega⟩,⟨Z2⟩⟩
      ·replace c9:=Bool.eq_false_iff.mpr c9
       subst c9;rw [if_neg (show ¬ (false = true) by decide)] at H;obtain rfl:=Option.some.inj H;have aL : 0 ≤ (aA : Int):=odt;have aM : aA < (l0.length : Int):=odt;obtain ⟨aN,aW,aB,aC,aD,aE,aF⟩:=at_T70 a5.out aA aL aM;cases aW;replace aB:=ZC HB.out aB;replace aC:=ZC HB.out aC;replace aD:=ZC HB.out aD;replace aE:=ZC HB.out aE;replace aF:=ZC HB.out aF;replace aL:=eq_true aL;replace aM:=eq_true aM
       go_wp2_with (first | ((with_reducible refine gate_callee (f:=49) rfl ?_);refine gL 27 Try.func49 #[.agg #[.int .i64 ((rd_T70 l0 aA).f0),.int .i64 ((rd_T70 l0 aA).f1),.int .i64 ((rd_T70 l0 aA).f2.f0),.int .i64 ((rd_T70 l0 aA).f2.f1),.string ((rd_T70 l0 aA).f2.f2)],.int .i64 a1,.int .i64 a2,.int .i64 a3] ?_;(with_reducible refine (spec_validStep.calls k1 ((rd_T70 l0 aA).f0) ((rd_T70 l0 aA).f1) ((rd_T70 l0 aA).f2.f0) ((rd_T70 l0 aA).f2.f1) ((rd_T70 l0 aA).f2.f2) a1 a2 a3 false _ A8.out).mono ?_);rintro e bW ⟨rfl,hb⟩;refine ⟨_,rfl,?_⟩;replace HB:=A_ (bst Z2 hb);(try clear hb)))
       go_ret
       exact ⟨Z12,Z2⟩
     ·rw [if_neg c7] at H
      exact absurd H (by simp)
    ·rw [if_neg c6] at H
     have bE:=df c6;clear c6;obtain rfl:=Option.some.inj H
     go_wp2
     go_ret
     exact ⟨Z12,Z2⟩
end Go.Proofs.Ytmgdjmeoljepgaa.PFnProgBelow
