/- Walks (lines of the print; no condition). -/
import Derived.Test.YtmgdjmeoljepgaaZFnProgBelowQFnProgBelowx4
import Derived.Test.YtmgdjmeoljepgaaZFnProgBelowQFnProgBelowx7
import Derived.Test.YtmgdjmeoljepgaaZFnProgBelowQFnProgBelowx8
namespace Go.Proofs.Ytmgdjmeoljepgaa.PFnProgBelow
open Go.RowKit Go.Proofs.YtmgdjmeoljepgaaW.PrintWords Go.Proofs.YtmgdjmeoljepgaaW.PrintLast Go.Proofs.YtmgdjmeoljepgaaW.PrintMore
attribute [local go_sem] max2_int min2_int max_two min_two max_three min_three max_four min_four
set_option linter.unusedVariables false
set_option linter.unusedSimpArgs false
mutual
def spec_validTmpl.j0 : Nat → List (S48) → Int → Int → Int → Bool → Int → Int → List Int → List (List (S70)) → List (S70) → List (S76) → List (S46) → Option (Bool)
 | 0,_,_,_,_,_,_,_,_,_,_,_,_ => none
 | k + 1,x0,x1,x3,x4,aU,aC,aE,aF,aD,aB,aG,aA => if aU = true then (some false) else (if 0 ≤ x1 then (if x1 < (x0.length : Int) then ((spec_validForms.f k aD ((rd_T48 x0 x1).f0) (((rd_T48 x0 x1).f1).length : Int) x4).bind fun aP => (if aP = true then (if aC = 3 then (if (aB.length : Int) > 0 then ((spec_validForm.f k aB ((rd_T48 x0 x1).f0) (((rd_T48 x0 x1).f1).length : Int) (wrap64 (x4 + 1))).bind fun aQ => (if aQ = true then (spec_validTmpl.j1 k x0 x1 x3 (wrap64 (x4 + 1)) aC aE aF aD aB aG aA) else (some false))) else (spec_validTmpl.j1 k x0 x1 x3 (wrap64 (x4 + 1)) aC aE aF aD aB aG aA)) else (spec_validTmpl.j1 k x0 x1 x3 x4 aC aE aF aD aB aG aA)) else (some false))) else (none)) else (none))
def spec_validTmpl.j1 : Nat → List (S48) → Int → Int → Int → Int → Int → List Int → List (List (S70)) → List (S70) → List (S76) → List (S46) → Option (Bool)
 | 0,_,_,_,_,_,_,_,_,_,_,_ => none
 | k + 1,x0,x1,x3,x4,aC,aE,aF,aD,aB,aG,aA => spec_validTmpl.l0 k x0 x1 x3 x4 0 aC aE aF aD aB aG aA
def spec_validTmpl.l0 : Nat → List (S48) → Int → Int → Int → Int → Int → Int → List Int → List (List (S70)) → List (S70) → List (S76) → List (S46) → Option (Bool)
 | 0,_,_,_,_,_,_,_,_,_,_,_,_ => none
 | k + 1,x0,x1,x3,x4,aJ,aC,aE,aF,aD,aB,aG,aA => if aJ < (aA.length : Int) then (if 0 ≤ aJ then ((spec_validTmpl.f k x0 x1 ((rd_T46 aA aJ).f0) ((rd_T46 aA aJ).f1) ((rd_T46 aA aJ).f2) ((rd_T46 aA aJ).f3) ((rd_T46 aA aJ).f4) ((rd_T46 aA aJ).f5) ((rd_T46 aA aJ).f6) (wrap64 (x3 + 1)) x4).bind fun aR => (if aR = true then (spec_validTmpl.l0 k x0 x1 x3 x4 (wrap64 (aJ + 1)) aC aE aF aD aB aG aA) else (some false))) else (none)) else (some true)
def spec_validTmpl.f : Nat → List (S48) → Int → Int → Int → List Int → List (List (S70)) → List (S70) → List (S76) → List (S46) → Int → Int → Option (Bool)
 | 0,_,_,_,_,_,_,_,_,_,_,_ => none
 | k + 1,l0,a1,aH,aK,aL,aM,aN,l2_5,aI,a3,a4 => (spec_tmpls.f k aH).bind fun aO => (if a3 > 4 then (spec_validTmpl.j0 k l0 a1 a3 a4 true aH aK aL aM aN l2_5 aI) else ((spec_validHead.f k l0 a1 aH aK aL aM aN l2_5 aI).bind fun aS => (if aS = true then ((spec_inRange.f (aI.length : Int) aO.1 aO.2).bind fun aT => (spec_validTmpl.j0 k l0 a1 a3 a4 (!aT) aH aK aL aM aN l2_5 aI)) else (spec_validTmpl.j0 k l0 a1 a3 a4 true aH aK aL aM aN l2_5 aI))))
end
set_option maxHeartbeats 8000000 in
set_option maxRecDepth 100000 in
theorem spec_validTmpl.calls (k : Nat) : ∀ (A0 : Option Addr) (c0 : Nat) (l0 : List (S48)) (a1 : Int) (aJ : Int) (aW : Int) (cF : Option Addr) (cG : Nat) (aL : List Int) (bZ : Option Addr) (b0 : Nat) (aK : List (List (S70))) (cH : Option Addr) (cI : Nat) (aI : List (S70)) (cJ : Option Addr) (cK : Nat) (l2_5 : List (S76)) (cL : Option Addr) (cM : Nat) (aC : List (S46)) (a3 : Int) (a4 : Int) (r : Bool) (w : World) (oL : Kd.C k48 w A0 l0.length l0) (hc0 : l0.length ≤ c0) (dT : Kd.C (Kd.int .i64) w cF aL.length aL) (dU : aL.length ≤ cG) (dV : Kd.C (Kd.slice 70 k70) w bZ aK.length aK) (dW : aK.length ≤ b0) (dX : Kd.C k70 w cH aI.length aI) (dY : aI.length ≤ cI) (dZ : Kd.C k76 w cJ l2_5.length l2_5) (d0 : l2_5.length ≤ cK) (d1 : Kd.C k46 w cL aC.length aC) (d2 : aC.length ≤ cM) (h : spec_validTmpl.f k l0 a1 aJ aW aL aK aI l2_5 aC a3 a4 = some r),
  Calls Try.prog 29 #[.slice A0 l0.length c0,.int .i64 a1,.agg #[.int .i64 aJ,.int .i64 aW,.slice cF aL.length cG,.slice bZ aK.length b0,.slice cH aI.length cI,.slice cJ l2_5.length cK,.slice cL aC.length cM],.int .i64 a3,.int .i64 a4] w fun e w' => e = .returned (.bool r) ∧ Below w.heap.size w w':=by
 induction k using Nat.strongRecOn with
 | _ k ih =>
 intro A0 c0 l0 a1 aJ aW cF cG aL bZ b0 aK cH cI aI cJ cK l2_5 cL cM aC a3 a4 r w oL hc0 dT dU dV dW dX dY dZ d0 d1 d2 h
 cases k with
 | zero => exact absurd h (by simp [spec_validTmpl.f])
 | succ k =>
 simp only [spec_validTmpl.f] at h;have pE:=Try.underlying46;have pF:=Try.underlying48;have gS:=A_ oL;have iD:=A_ hc0;clear oL hc0;have fW:=A_ dT;have fX:=A_ dU;clear dT dU;have dN:=A_ dV;have dO:=A_ dW;clear dV dW;have dP:=A_ dX;have dQ:=A_ dY;clear dX dY;have fY:=A_ dZ;have fZ:=A_ d0;clear dZ d0;have dR:=A_ d1;have f7:=A_ d2;clear d1 d2;have HB:=A_ (Below.refl w.heap.size w);have H:=h;unfold spec_validTmpl.f at H;clear h;replace H:=bS H;obtain ⟨⟨gV,gW⟩,oR,H⟩:=H
 try dsimp only at H
 have A6:=A_ oR;clear oR;have oM:=A_ H;clear H
 go_enter Try.func29,Try.ntmps29
 go_upto_region 2 with (first | ((with_reducible refine gate_dst (N:=7) rfl ?_);(try (refine gate_guard (by rfl) ?_;dsimp only));refine be (cs:=#[.int .i64 aJ,.int .i64 aW,.slice cF aL.length cG,.slice bZ aK.length b0,.slice cH aI.length cI,.slice cJ l2_5.length cK,.slice cL aC.length cM]) (t:=46) ?_;intro aX hg w8 hbox hb;have aA:=A_ hbox;have gX:=A_ (gl hg (bz Z2));have aD:=gX;replace HB:=A_ (bst Z2 hb);clear hb hbox hg;obtain ⟨f8,f9,gA,gB,gC,gD,gE,gF,gG,gH,gI,gJ,gK,gM⟩:=C7 aA.out) | ((with_reducible refine gate_callee (f:=41) rfl ?_);refine gL 18 Try.func41 #[.int .i64 aJ] ?_;(with_reducible refine (spec_tmpls.calls k aJ gV gW _ A6.out).mono ?_);rintro e w' ⟨rfl,⟨nd,rfl⟩⟩;refine ⟨_,rfl,?_⟩))
 (try simp only [Act.put,List.setIfInBounds_toArray,List.set_cons_zero,List.set_cons_succ])
 go_cut [38] (fun pG wc => ∃ (kq : Nat) (dS : Bool),pG = .bool dS ∧ Aside0 (spec_validTmpl.j0 kq l0 a1 a3 a4 dS aJ aW aL aK aI l2_5 aC = some r) ∧ Aside0 (kq ≤ k) ∧ Aside0 (wc.heap[aX]? = some (.cells #[.int .i64 aJ,.int .i64 aW,(.slice cF aL.length cG),(.slice bZ aK.length b0),(.slice cH aI.length cI),(.slice cJ l2_5.length cK),(.slice cL aC.length cM)] 46 (0,0))) ∧ Aside0 (Below w.heap.size w wc))
 case first =>
  have H:=oM.out;clear oM
  by_cases c10 : a3 > 4
  ·rw [if_pos c10] at H
   have cX : decide (4 < a3) = true:=dt c10;clear c10;(first | rw [cX] | (simp only [i64_w,i32_w];rw [cX]) | skip);have H':=A_ H;clear H
   go_wp2
   go_meet
   case rel => exact ⟨_,(true),Z22,H',⟨Z47⟩,⟨Z1 aA.out⟩,⟨Z3 aD.out⟩⟩
  ·rw [if_neg c10] at H
   have cX : decide (4 < a3) = false:=df c10;clear c10;(first | rw [cX] | (simp only [i64_w,i32_w];rw [cX]) | skip);replace H:=bS H;obtain ⟨oN,gY,H⟩:=H
   try dsimp only at H
   have oS:=A_ gY;clear gY
   by_cases iE : oN = true
   ·subst iE
    rw [if_pos rfl] at H;replace H:=bS H;obtain ⟨gZ,hD,H⟩:=H
    try dsimp only at H
    have pH:=A_ hD;clear hD;have H':=A_ H;clear H;obtain ⟨iF,iG,iH,iI,iJ,iK,iL,iM,iN,iO,iP,iQ,iR,iS⟩:=C7 aA.out
    go_wp2_with (first | (go_at_call 42;(with_reducible refine (spec_validHead.calls k _ _ l0 a1 aJ aW _ _ aL _ _ aK _ _ aI _ _ l2_5 _ _ aC true _ ?s1 iD.out ?s3 fX.out ?s5 dO.out ?s7 dQ.out ?s9 fZ.out ?s11 f7.out oS.out).mono ?_);(case s1 => exact Z9 gS.out);(case s3 => exact Z9 fW.out);(case s5 => exact Z9 dN.out);(case s7 => exact Z9 dP.out);(case s9 => exact Z9 fY.out);(case s11 => exact Z9 dR.out);rintro e pJ ⟨rfl,hb⟩;replace aA:=A_ (bb (Z1 aA.out) hb);replace HB:=A_ (bst (Z3 aD.out) hb);(try clear hb);obtain ⟨iT,iU,iV,iW,iX,iY,iZ,i1,i2,i3,i4,i5,i6,i7⟩:=C7 aA.out) | (go_at_call 17;(with_reducible refine (spec_inRange.calls (aC.length : Int) gV gW gZ _ pH.out).mono ?_);rintro e w' ⟨rfl,⟨nd,rfl⟩⟩))
    go_meet
    case rel => exact ⟨_,(!gZ),Z22,H',⟨Z47⟩,⟨Z1 aA.out⟩,⟨Z3 aD.out⟩⟩
   ·replace iE:=Bool.eq_false_iff.mpr iE
    subst iE;rw [if_neg (show ¬ (false = true) by decide)] at H;have H':=A_ H;clear H;obtain ⟨i8,i9,jA,jB,jC,jD,jE,jF,jG,jH,jI,jJ,jK,jL⟩:=C7 aA.out
    go_wp2_with (first | (go_at_call 42;(with_reducible refine (spec_validHead.calls k _ _ l0 a1 aJ aW _ _ aL _ _ aK _ _ aI _ _ l2_5 _ _ aC false _ ?s1 iD.out ?s3 fX.out ?s5 dO.out ?s7 dQ.out ?s9 fZ.out ?s11 f7.out oS.out).mono ?_);(case s1 => exact Z9 gS.out);(case s3 => exact Z9 fW.out);(case s5 => exact Z9 dN.out);(case s7 => exact Z9 dP.out);(case s9 => exact Z9 fY.out);(case s11 => exact Z9 dR.out);rintro e pK ⟨rfl,hb⟩;replace aA:=A_ (bb (Z1 aA.out) hb);replace HB:=A_ (bst (Z3 aD.out) hb);(try clear hb)))
    go_meet
    case rel => exact ⟨_,(true),Z22,H',⟨Z47⟩,⟨Z1 aA.out⟩,⟨Z3 aD.out⟩⟩
 case rest =>
  clear oM f8 f9 gA gB gC gD gE gF gG gH gI gJ gK gM;obtain ⟨kq,dS,rfl,HA,gN,aA,HB⟩:=hcut
  cases kq with
  | zero => exact absurd HA.out (by simp [spec_validTmpl.j0])
  | succ hI =>
   have H:=HA.out;clear HA;simp only [spec_validTmpl.j0] at H
   by_cases jM : dS = true
   ·subst jM
    rw [if_pos rfl] at H;obtain rfl:=Option.some.inj H
    go_wp2
    go_ret
    exact ⟨Z12,Z3 aD.out⟩
   ·replace jM:=Bool.eq_false_iff.mpr jM
    subst jM;rw [if_neg (show ¬ (false = true) by decide)] at H
    by_cases jN : 0 ≤ a1
    ·rw [if_pos jN] at H
     have hJ:=dt jN;clear jN
     by_cases jO : a1 < (l0.length : Int)
     ·rw [if_pos jO] at H
      have hL:=dt jO;clear jO;replace H:=bS H;obtain ⟨oO,hO,H⟩:=H
      try dsimp only at H
      have oT:=A_ hO;clear hO
      by_cases jP : oO = true
      ·subst jP
       rw [if_pos rfl] at H;have gO:=A_ H;clear H;have cY : 0 ≤ (a1 : Int):=odt;have cZ : a1 < (l0.length : Int):=odt;obtain ⟨d3,b1,b2,b3,b4,b5,b6,b7,b8,b9,cA,cB,cC,cD,cE,gP,aM,aN,aO,aP,aQ,aR,aS,aT,aU,aV,aY,aZ,a0,a2,a5,a6,a7,a8,a9,bA,bB,bC,bD,bE⟩:=at_T48 gS.out a1 cY cZ;cases gP;replace aM:=ZC HB.out aM;replace aN:=ZC HB.out aN;replace aO:=ZC HB.out aO;replace aP:=ZC HB.out aP;replace aQ:=ZC HB.out aQ;replace aR:=ZC HB.out aR;replace aS:=ZC HB.out aS;replace aT:=ZC HB.out aT;replace aU:=ZC HB.out aU;replace aV:=ZC HB.out aV;have d5:=A_ aZ;have d6:=A_ aY;clear aZ aY;have d7:=A_ a2;have d8:=A_ a0;clear a2 a0;have d9:=A_ a6;have eA:=A_ a5;clear a6 a5;have eB:=A_ a8;have eC:=A_ a7;clear a8 a7;have eD:=A_ bA;have eE:=A_ a9;clear bA a9;have eF:=A_ bC;have eG:=A_ bB;clear bC bB;have eH:=A_ bE;have eI:=A_ bD;clear bE bD;replace cY:=eq_true cY;replace cZ:=eq_true cZ
       go_upto_if 55 with (first | ((with_reducible refine gate_dst (N:=13) rfl ?_);(try (refine gate_guard (by rfl) ?_;dsimp only));refine be (cs:=#[.int .i64 0,.slice none 0 0,.slice none 0 0,.int .i64 0,.int .i64 0,.slice none 0 0,.slice none 0 0,.slice none 0 0,.slice none 0 0,.slice none 0 0]) (t:=48) ?_;intro bF hg pL hbox hb;have aF:=A_ hbox;have d4:=A_ (gl hg (bz (Z3 aD.out)));have aH:=d4;replace HB:=A_ (bst (Z3 aD.out) hb);have aE:=A_ ((by rw [hg];exact nl (blk_lt (Z1 aA.out)) : aX ≠ bF));have aG:=A_ ((by rw [hg];exact Nat.ne_of_gt (blk_lt (Z1 aA.out)) : bF ≠ aX));replace aA:=A_ (bb (Z1 aA.out) hb);clear hb hbox hg;have oV:=aG.out;have oW:=aE.out;obtain ⟨eJ,eK,eL,eM,eN,eO,eP,eQ,eR,eS,eT,eU,eV,eW,eX,eY,eZ,e0,e1,e2⟩:=C10 aF.out;obtain ⟨e3,e4,e5,e6,e7,e8,e9,fA,fB,fC,fD,fE,fF,fG⟩:=C7 aA.out) | ((with_reducible refine gate_callee (f:=43) rfl ?_);refine gL 51 Try.func43 #[.slice bZ aK.length b0,.int .i64 ((rd_T48 l0 a1).f0),.int .i64 (((rd_T48 l0 a1).f1).length : Int),.int .i64 a4] ?_;(with_reducible refine (spec_validForms.calls hI _ _ aK ((rd_T48 l0 a1).f0) (((rd_T48 l0 a1).f1).length : Int) a4 true _ ?s1 dO.out oT.out).mono ?_);(case s1 => exact Kd.C_below dN.out (Z8 aD.out aH.out));rintro e pM ⟨rfl,hb⟩;refine ⟨_,rfl,?_⟩;replace aA:=A_ (bb (g:=aX) (o:=.cells #[.int .i64 aJ,.int .i64 aW,.slice cF aL.length cG,.slice bZ aK.length b0,.slice cH aI.length cI,.slice cJ l2_5.length cK,.slice cL aC.length cM] 46 (0,0)) (Z15 aE.out aA.out) hb);replace aF:=A_ (bb (g:=bF) (o:=.cells #[.int .i64 ((rd_T48 l0 a1).f0),.slice b1 ((rd_T48 l0 a1).f1).length b2,.slice b3 ((rd_T48 l0 a1).f2).length b4,.int .i64 ((rd_T48 l0 a1).f3.f0),.int .i64 ((rd_T48 l0 a1).f3.f1),.slice b5 ((rd_T48 l0 a1).f3.f2).length b6,.slice b7 ((rd_T48 l0 a1).f3.f3).length b8,.slice b9 ((rd_T48 l0 a1).f3.f4).length cA,.slice cB ((rd_T48 l0 a1).f3.f5).length cC,.slice cD ((rd_T48 l0 a1).f3.f6).length cE] 48 (0,0)) (bp0 aF.out) hb);replace HB:=A_ (bst (Z8 aD.out aH.out) hb);(try clear hb);obtain ⟨fH,fI,fJ,fK,fL,fM,fN,fO,fP,fQ,fR,fS,fT,fU⟩:=C7 aA.out))
       (try simp only [Act.put,List.setIfInBounds_toArray,List.set_cons_zero,List.set_cons_succ])
       go_cut [4] (fun v4 wc => ∃ (kq : Nat) (bY : Int),v4 = .int .i64 bY ∧ Aside0 (spec_validTmpl.j1 kq l0 a1 a3 bY aJ aW aL aK aI l2_5 aC = some r) ∧ Aside0 (kq ≤ hI) ∧ Aside0 (wc.heap[aX]? = some (.cells #[.int .i64 aJ,.int .i64 aW,(.slice cF aL.length cG),(.slice bZ aK.length b0),(.slice cH aI.length cI),(.slice cJ l2_5.length cK),(.slice cL aC.length cM)] 46 (0,0))) ∧ Aside0 (wc.heap[bF]? = some (.cells #[.int .i64 ((rd_T48 l0 a1).f0),(.slice b1 ((rd_T48 l0 a1).f1).length b2),(.slice b3 ((rd_T48 l0 a1).f2).length b4),.int .i64 ((rd_T48 l0 a1).f3.f0),.int .i64 ((rd_T48 l0 a1).f3.f1),(.slice b5 ((rd_T48 l0 a1).f3.f2).length b6),(.slice b7 ((rd_T48 l0 a1).f3.f3).length b8),(.slice b9 ((rd_T48 l0 a1).f3.f4).length cA),(.slice cB ((rd_T48 l0 a1).f3.f5).length cC),(.slice cD ((rd_T48 l0 a1).f3.f6).length cE)] 48 (0,0))) ∧ Aside0 (Below w.heap.size w wc))
       case first =>
        have H:=gO.out;clear gO
        by_cases gQ : aJ = 3
        ·rw [if_pos gQ] at H
         have dA:=e_t gQ;have hU:=n_f gQ;clear gQ;(first | rw [dA] | (simp only [i64_w,i32_w];rw [dA]) | skip)
         by_cases gT : (aI.length : Int) > 0
         ·rw [if_pos gT] at H
          have hV : decide (0 < (aI.length : Int)) = true:=dt gT;have hX : decide (0 < aI.length) = true:=dt (by omega);clear gT;replace H:=bS H;obtain ⟨oP,hY,H⟩:=H
          try dsimp only at H
          have oX:=A_ hY;clear hY
          by_cases jQ : oP = true
          ·subst jQ
           rw [if_pos rfl] at H;have H':=A_ H;clear H;have oY:=aE.out;have oZ:=aG.out;obtain ⟨jR,jS,jT,jU,jV,jW,jX,jY,jZ,j2,j3,j4,j5,j6⟩:=C7 aA.out;obtain ⟨j7,j8,j9,kA,kB,kC,kD,kE,kF,kG,kH,kI,kJ,kK,kL,kM,kN,kO,kP,kQ⟩:=C10 aF.out
           go_wp2_with (first | (go_at_call 40;(with_reducible refine (spec_validForm.calls hI _ _ aI ((rd_T48 l0 a1).f0) (((rd_T48 l0 a1).f1).length : Int) (wrap64 (a4 + 1)) true _ ?s1 dQ.out oX.out).mono ?_);(case s1 => exact Z9 dP.out);rintro e pO ⟨rfl,hb⟩;replace aA:=A_ (bb (Z1 aA.out) hb);replace aF:=A_ (bb (Z1 aF.out) hb);replace HB:=A_ (bst (Z8 aD.out aH.out) hb);(try clear hb)))
           go_meet
           case rel => exact ⟨_,(wrap64 (a4 + 1)),Z22,H',⟨by have:=gN.out;first | omega | exact Nat.le_refl _⟩,⟨Z1 aA.out⟩,⟨Z1 aF.out⟩,⟨Z8 aD.out aH.out⟩⟩
          ·replace jQ:=Bool.eq_false_iff.mpr jQ
           subst jQ;rw [if_neg (show ¬ (false = true) by decide)] at H;obtain rfl:=Option.some.inj H;have o0:=aE.out;have o1:=aG.out;obtain ⟨kR,kS,kT,kU,kV,kW,kX,kY,kZ,k0,k1,k2,k4,k5⟩:=C7 aA.out;obtain ⟨k6,k7,k8,k9,lA,lB,lC,lD,lE,lF,lG,lH,lI,lJ,lK,lL,lM,lN,lO,lP⟩:=C10 aF.out
           go_wp2_with (first | (go_at_call 40;(with_reducible refine (spec_validForm.calls hI _ _ aI ((rd_T48 l0 a1).f0) (((rd_T48 l0 a1).f1).length : Int) (wrap64 (a4 + 1)) false _ ?s1 dQ.out oX.out).mono ?_);(case s1 => exact Z9 dP.out);rintro e pP ⟨rfl,hb⟩;replace aA:=A_ (bb (Z1 aA.out) hb);replace aF:=A_ (bb (Z1 aF.out) hb);replace HB:=A_ (bst (Z8 aD.out aH.out) hb);(try clear hb)))
           go_ret
           exact ⟨Z12,Z8 aD.out aH.out⟩
         ·rw [if_neg gT] at H
          have hV : decide (0 < (aI.length : Int)) = false:=df gT;have hX : decide (0 < aI.length) = false:=df (by omega);clear gT;have H':=A_ H;clear H;have o2:=aE.out;have o3:=aG.out;obtain ⟨lQ,lR,lS,lT,lU,lV,lW,lX,lY,lZ,mA,mB,mC,mD⟩:=C7 aA.out
          go_wp2
          go_meet
          case rel => exact ⟨_,(wrap64 (a4 + 1)),Z22,H',⟨by have:=gN.out;first | omega | exact Nat.le_refl _⟩,⟨Z1 aA.out⟩,⟨Z1 aF.out⟩,⟨Z8 aD.out aH.out⟩⟩
        ·rw [if_neg gQ] at H
         have dA:=e_f gQ;have hU:=n_t gQ;(first | rw [dA] | (simp only [i64_w,i32_w];rw [dA]) | skip);have H':=A_ H;clear H
         go_wp2
         go_meet
         case rel => exact ⟨_,(a4),Z22,H',⟨by have:=gN.out;first | omega | exact Nat.le_refl _⟩,⟨Z1 aA.out⟩,⟨Z1 aF.out⟩,⟨Z8 aD.out aH.out⟩⟩
       case rest =>
        clear gO hJ hL eJ eK eL eM eN eO eP eQ eR eS e3 e4 e5 e6 e7 e8 e9 fH fI fJ fK fL fM fN eT eU eV eW eX eY eZ e0 e1 e2 fA fB fC fD fE fF fG fO fP fQ fR fS fT fU aM aN aO aP aQ aR aS aT aU aV cY cZ;obtain ⟨kq,bY,rfl,HA,fV,aA,aF,HB⟩:=hcut
        cases kq with
        | zero => exact absurd HA.out (by simp [spec_validTmpl.j1])
        | succ hZ =>
         have H:=HA.out;clear HA;simp only [spec_validTmpl.j1] at H;have H':=A_ H;clear H
         go_wp2
         go_loopg [14] hZ (fun kq pI w' => ∃ (aB : Int),pI = .int .i64 aB ∧ Aside0 (spec_validTmpl.l0 kq l0 a1 a3 bY aB aJ aW aL aK aI l2_5 aC = some r) ∧ Aside0 (kq ≤ hZ) ∧ Aside0 (w'.heap[aX]? = some (.cells #[.int .i64 aJ,.int .i64 aW,(.slice cF aL.length cG),(.slice bZ aK.length b0),(.slice cH aI.length cI),(.slice cJ l2_5.length cK),(.slice cL aC.length cM)] 46 (0,0))) ∧ Aside0 (w'.heap[bF]? = some (.cells #[.int .i64 ((rd_T48 l0 a1).f0),(.slice b1 ((rd_T48 l0 a1).f1).length b2),(.slice b3 ((rd_T48 l0 a1).f2).length b4),.int .i64 ((rd_T48 l0 a1).f3.f0),.int .i64 ((rd_T48 l0 a1).f3.f1),(.slice b5 ((rd_T48 l0 a1).f3.f2).length b6),(.slice b7 ((rd_T48 l0 a1).f3.f3).length b8),(.slice b9 ((rd_T48 l0 a1).f3.f4).length cA),(.slice cB ((rd_T48 l0 a1).f3.f5).length cC),(.slice cD ((rd_T48 l0 a1).f3.f6).length cE)] 48 (0,0))) ∧ Aside0 (Below w.heap.size w w'))
         case atStart => exact ⟨(0),Z22,H',⟨Nat.le_refl _⟩,⟨Z1 aA.out⟩,⟨Z1 aF.out⟩,⟨Z8 aD.out aH.out⟩⟩
         case round =>
          clear H';obtain ⟨aB,rfl,HA,HK3,aA,aF,HB⟩:=hrel
          cases gk with
          | zero => exact absurd HA.out (by simp [spec_validTmpl.l0])
          | succ k3 =>
           have H:=HA.out;clear HA;simp only [spec_validTmpl.l0] at H
           by_cases gU : aB < (aC.length : Int)
           ·rw [if_pos gU] at H
            have iA:=dt gU;clear gU
            by_cases mE : 0 ≤ aB
            ·rw [if_pos mE] at H
             have o4:=dt mE;clear mE;replace H:=bS H;obtain ⟨oQ,iB,H⟩:=H
             try dsimp only at H
             have o5:=A_ iB;clear iB
             by_cases mF : oQ = true
             ·subst mF
              rw [if_pos rfl] at H;have H':=A_ H;clear H;have o6:=aE.out;have o7:=aG.out;obtain ⟨mG,mH,mI,mJ,mK,mL,mM,mN,mO,mP,mQ,mR,mS,mT⟩:=C7 aA.out;have dB : 0 ≤ (aB : Int):=odt;have dC : aB < (aC.length : Int):=odt;obtain ⟨iC,dD,dE,dF,dG,dH,dI,dJ,dK,dL,dM,gR,bG,bH,bI,bJ,bK,bL,bM,bN,bO,bP,bQ,bR,bT,bU,bV,bW,bX⟩:=at_T46 dR.out aB dB dC;cases gR;replace bG:=ZC HB.out bG;replace bH:=ZC HB.out bH;replace bI:=ZC HB.out bI;replace bJ:=ZC HB.out bJ;replace bK:=ZC HB.out bK;replace bL:=ZC HB.out bL;replace bM:=ZC HB.out bM;have cN:=A_ bO;have cO:=A_ bN;clear bO bN;have cP:=A_ bQ;have cQ:=A_ bP;clear bQ bP;have cR:=A_ bT;have cS:=A_ bR;clear bT bR;have cT:=A_ bV;have cU:=A_ bU;clear bV bU;have cV:=A_ bX;have cW:=A_ bW;clear bX bW;replace dB:=eq_true dB;replace dC:=eq_true dC
              go_wp2_with (first | ((with_reducible refine gate_callee (f:=29) rfl ?_);refine gL 91 Try.func29 #[.slice (some d3) l0.length c0,.int .i64 a1,.agg #[.int .i64 ((rd_T46 aC aB).f0),.int .i64 ((rd_T46 aC aB).f1),.slice dD ((rd_T46 aC aB).f2).length dE,.slice dF ((rd_T46 aC aB).f3).length dG,.slice dH ((rd_T46 aC aB).f4).length dI,.slice dJ ((rd_T46 aC aB).f5).length dK,.slice dL ((rd_T46 aC aB).f6).length dM],.int .i64 (wrap64 (a3 + 1)),.int .i64 bY] ?_;(with_reducible refine (ih k3 (by have:=gN.out;have:=fV.out;have:=HK3.out;omega) _ _ l0 a1 ((rd_T46 aC aB).f0) ((rd_T46 aC aB).f1) _ _ ((rd_T46 aC aB).f2) _ _ ((rd_T46 aC aB).f3) _ _ ((rd_T46 aC aB).f4) _ _ ((rd_T46 aC aB).f5) _ _ ((rd_T46 aC aB).f6) (wrap64 (a3 + 1)) bY true _ ?s1 iD.out ?s3 cO.out ?s5 cQ.out ?s7 cS.out ?s9 cU.out ?s11 cW.out o5.out).mono ?_);(case s1 => exact Z9 gS.out);(case s3 => exact Z9 cN.out);(case s5 => exact Z9 cP.out);(case s7 => exact Z9 cR.out);(case s9 => exact Z9 cT.out);(case s11 => exact Z9 cV.out);rintro e pQ ⟨rfl,hb⟩;refine ⟨_,rfl,?_⟩;replace aA:=A_ (bb (Z1 aA.out) hb);replace aF:=A_ (bb (Z1 aF.out) hb);replace HB:=A_ (bst (Z8 aD.out aH.out) hb);(try clear hb)))
              go_roundg k3
              case measure => have:=gN.out;have:=fV.out;have:=HK3.out;omega
              case rel => exact ⟨(wrap64 (aB + 1)),Z22,H',⟨by have:=gN.out;have:=fV.out;have:=HK3.out;omega⟩,⟨Z1 aA.out⟩,⟨Z1 aF.out⟩,⟨Z8 aD.out aH.out⟩⟩
             ·replace mF:=Bool.eq_false_iff.mpr mF
              subst mF;rw [if_neg (show ¬ (false = true) by decide)] at H;obtain rfl:=Option.some.inj H;have o8:=aE.out;have o9:=aG.out;obtain ⟨mU,mV,mW,mX,mY,mZ,m0,m1,m2,m3,m4,m5,m6,m7⟩:=C7 aA.out;have dB : 0 ≤ (aB : Int):=odt;have dC : aB < (aC.length : Int):=odt;obtain ⟨iC,dD,dE,dF,dG,dH,dI,dJ,dK,dL,dM,gR,bG,bH,bI,bJ,bK,bL,bM,bN,bO,bP,bQ,bR,bT,bU,bV,bW,bX⟩:=at_T46 dR.out aB dB dC;cases gR;replace bG:=ZC HB.out bG;replace bH:=ZC HB.out bH;replace bI:=ZC HB.out bI;replace bJ:=ZC HB.out bJ;replace bK:=ZC HB.out bK;replace bL:=ZC HB.out bL;replace bM:=ZC HB.out bM;have cN:=A_ bO;have cO:=A_ bN;clear bO bN;have cP:=A_ bQ;have cQ:=A_ bP;clear bQ bP;have cR:=A_ bT;have cS:=A_ bR;clear bT bR;have cT:=A_ bV;have cU:=A_ bU;clear bV bU;have cV:=A_ bX;have cW:=A_ bW;clear bX bW;replace dB:=eq_true dB;replace dC:=eq_true dC
              go_wp2_with (first | ((with_reducible refine gate_callee (f:=29) rfl ?_);refine gL 91 Try.func29 #[.slice (some d3) l0.length c0,.int .i64 a1,.agg #[.int .i64 ((rd_T46 aC aB).f0),.int .i64 ((rd_T46 aC aB).f1),.slice dD ((rd_T46 aC aB).f2).length dE,.slice dF ((rd_T46 aC aB).f3).length dG,.slice dH ((rd_T46 aC aB).f4).length dI,.slice dJ ((rd_T46 aC aB).f5).length dK,.slice dL ((rd_T46 aC aB).f6).length dM],.int .i64 (wrap64 (a3 + 1)),.int .i64 bY] ?_;(with_reducible refine (ih k3 (by have:=gN.out;have:=fV.out;have:=HK3.out;omega) _ _ l0 a1 ((rd_T46 aC aB).f0) ((rd_T46 aC aB).f1) _ _ ((rd_T46 aC aB).f2) _ _ ((rd_T46 aC aB).f3) _ _ ((rd_T46 aC aB).f4) _ _ ((rd_T46 aC aB).f5) _ _ ((rd_T46 aC aB).f6) (wrap64 (a3 + 1)) bY false _ ?s1 iD.out ?s3 cO.out ?s5 cQ.out ?s7 cS.out ?s9 cU.out ?s11 cW.out o5.out).mono ?_);(case s1 => exact Z9 gS.out);(case s3 => exact Z9 cN.out);(case s5 => exact Z9 cP.out);(case s7 => exact Z9 cR.out);(case s9 => exact Z9 cT.out);(case s11 => exact Z9 cV.out);rintro e pR ⟨rfl,hb⟩;refine ⟨_,rfl,?_⟩;replace aA:=A_ (bb (Z1 aA.out) hb);replace aF:=A_ (bb (Z1 aF.out) hb);replace HB:=A_ (bst (Z8 aD.out aH.out) hb);(try clear hb)))
              go_ret
              exact ⟨Z12,Z8 aD.out aH.out⟩
            ·rw [if_neg mE] at H
             exact absurd H (by simp)
           ·rw [if_neg gU] at H
            have iA:=df gU;clear gU;obtain rfl:=Option.some.inj H;have pA:=aE.out;have pB:=aG.out;obtain ⟨m8,m9,nA,nB,nC,nD,nE,nF,nG,nH,nI,nJ,nK,nL⟩:=C7 aA.out
            go_wp2
            go_ret
            exact ⟨Z12,Z8 aD.out aH.out⟩
      ·replace jP:=Bool.eq_false_iff.mpr jP
       subst jP;rw [if_neg (show ¬ (false = true) by decide)] at H;obtain rfl:=Option.some.inj H;have cY : 0 ≤ (a1 : Int):=odt;have cZ : a1 < (l0.length : Int):=odt;obtain ⟨d3,b1,b2,b3,b4,b5,b6,b7,b8,b9,cA,cB,cC,cD,cE,gP,aM,aN,aO,aP,aQ,aR,aS,aT,aU,aV,aY,aZ,a0,a2,a5,a6,a7,a8,a9,bA,bB,bC,bD,bE⟩:=at_T48 gS.out a1 cY cZ;cases gP;replace aM:=ZC HB.out aM;replace aN:=ZC HB.out aN;replace aO:=ZC HB.out aO;replace aP:=ZC HB.out aP;replace aQ:=ZC HB.out aQ;replace aR:=ZC HB.out aR;replace aS:=ZC HB.out aS;replace aT:=ZC HB.out aT;replace aU:=ZC HB.out aU;replace aV:=ZC HB.out aV;have d5:=A_ aZ;have d6:=A_ aY;clear aZ aY;have d7:=A_ a2;have d8:=A_ a0;clear a2 a0;have d9:=A_ a6;have eA:=A_ a5;clear a6 a5;have eB:=A_ a8;have eC:=A_ a7;clear a8 a7;have eD:=A_ bA;have eE:=A_ a9;clear bA a9;have eF:=A_ bC;have eG:=A_ bB;clear bC bB;have eH:=A_ bE;have eI:=A_ bD;clear bE bD
       replace cY:=eq_true cY;replace cZ:=eq_true cZ
       go_wp2_with (first | ((with_reducible refine gate_dst (N:=13) rfl ?_);(try (refine gate_guard (by rfl) ?_;dsimp only));refine be (cs:=#[.int .i64 0,.slice none 0 0,.slice none 0 0,.int .i64 0,.int .i64 0,.slice none 0 0,.slice none 0 0,.slice none 0 0,.slice none 0 0,.slice none 0 0]) (t:=48) ?_;intro bF hg pS hbox hb;have aF:=A_ hbox;have d4:=A_ (gl hg (bz (Z3 aD.out)));have aH:=d4;replace HB:=A_ (bst (Z3 aD.out) hb);have aE:=A_ ((by rw [hg];exact nl (blk_lt (Z1 aA.out)) : aX ≠ bF));have aG:=A_ ((by rw [hg];exact Nat.ne_of_gt (blk_lt (Z1 aA.out)) : bF ≠ aX));replace aA:=A_ (bb (Z1 aA.out) hb);clear hb hbox hg;have pC:=aG.out;have pD:=aE.out;obtain ⟨nM,nN,nO,nP,nQ,nR,nS,nT,nU,nV,nW,nX,nY,nZ,n0,n1,n2,n3,n4,n5⟩:=C10 aF.out;obtain ⟨n7,n8,n9,oA,oB,oC,oD,oE,oF,oG,oH,oI,oJ,oK⟩:=C7 aA.out) | ((with_reducible refine gate_callee (f:=43) rfl ?_);refine gL 51 Try.func43 #[.slice bZ aK.length b0,.int .i64 ((rd_T48 l0 a1).f0),.int .i64 (((rd_T48 l0 a1).f1).length : Int),.int .i64 a4] ?_;(with_reducible refine (spec_validForms.calls hI _ _ aK ((rd_T48 l0 a1).f0) (((rd_T48 l0 a1).f1).length : Int) a4 false _ ?s1 dO.out oT.out).mono ?_);(case s1 => exact Kd.C_below dN.out (Z8 aD.out aH.out));rintro e pT ⟨rfl,hb⟩;refine ⟨_,rfl,?_⟩;replace aA:=A_ (bb (g:=aX) (o:=.cells #[.int .i64 aJ,.int .i64 aW,.slice cF aL.length cG,.slice bZ aK.length b0,.slice cH aI.length cI,.slice cJ l2_5.length cK,.slice cL aC.length cM] 46 (0,0)) (Z15 aE.out aA.out) hb);replace aF:=A_ (bb (g:=bF) (o:=.cells #[.int .i64 ((rd_T48 l0 a1).f0),.slice b1 ((rd_T48 l0 a1).f1).length b2,.slice b3 ((rd_T48 l0 a1).f2).length b4,.int .i64 ((rd_T48 l0 a1).f3.f0),.int .i64 ((rd_T48 l0 a1).f3.f1),.slice b5 ((rd_T48 l0 a1).f3.f2).length b6,.slice b7 ((rd_T48 l0 a1).f3.f3).length b8,.slice b9 ((rd_T48 l0 a1).f3.f4).length cA,.slice cB ((rd_T48 l0 a1).f3.f5).length cC,.slice cD ((rd_T48 l0 a1).f3.f6).length cE] 48 (0,0)) (bp0 aF.out) hb);replace HB:=A_ (bst (Z8 aD.out aH.out) hb);(try clear hb)))
       go_ret
       exact ⟨Z12,Z8 aD.out aH.out⟩
     ·rw [if_neg jO] at H
      exact absurd H (by simp)
    ·rw [if_neg jN] at H
     exact absurd H (by simp)
end Go.Proofs.Ytmgdjmeoljepgaa.PFnProgBelow
