/- Walks (lines of the print; no condition). -/
import Derived.Test.YtmgdjmeoljepgaaZFnProgBelowQFnProgBelowx18
namespace Go.Proofs.Ytmgdjmeoljepgaa.PFnProgBelow
open Go.RowKit Go.Proofs.YtmgdjmeoljepgaaW.PrintWords Go.Proofs.YtmgdjmeoljepgaaW.PrintLast Go.Proofs.YtmgdjmeoljepgaaW.PrintMore
attribute [local go_sem] max2_int min2_int max_two min_two max_three min_three max_four min_four
set_option linter.unusedVariables false
set_option linter.unusedSimpArgs false
mutual
def impl_compOk.j0 : Nat → Bool → Int → List (S67) → List (List (S57)) → Int → Int → List Int → List (List (S70)) → List (S70) → List (S76) → List (S46) → Option (Bool)
 | 0,_,_,_,_,_,_,_,_,_,_,_ => none
 | k + 1,aS,aC,aA,aB,aD,aE,aF,aG,aH,aI,aJ => if aS = true then (some false) else (impl_compOk.l0 k aB (aB.length : Int) 0 aC aA aB aD aE aF aG aH aI aJ)
def impl_compOk.l0 : Nat → List (List (S57)) → Int → Int → Int → List (S67) → List (List (S57)) → Int → Int → List Int → List (List (S70)) → List (S70) → List (S76) → List (S46) → Option (Bool)
 | 0,_,_,_,_,_,_,_,_,_,_,_,_,_ => none
 | k + 1,aL,aN,aK,aC,aA,aB,aD,aE,aF,aG,aH,aI,aJ => if aK < aN then (if 0 ≤ aK then (if aK < (aL.length : Int) then (if ((rd_L7 aL aK).length : Int) > 3 then (some false) else (impl_compOk.l1 k aL aN aK (rd_L7 aL aK) ((rd_L7 aL aK).length : Int) 0 aC aA aB aD aE aF aG aH aI aJ)) else (none)) else (none)) else (some true)
def impl_compOk.l1 : Nat → List (List (S57)) → Int → Int → List (S57) → Int → Int → Int → List (S67) → List (List (S57)) → Int → Int → List Int → List (List (S70)) → List (S70) → List (S76) → List (S46) → Option (Bool)
 | 0,_,_,_,_,_,_,_,_,_,_,_,_,_,_,_,_ => none
 | k + 1,aL,aN,aK,aO,aR,aM,aC,aA,aB,aD,aE,aF,aG,aH,aI,aJ => if aM < aR then (if 0 ≤ aM then (if aM < (aO.length : Int) then ((impl_within.f ((rd_T57 aO aM).f0) 0 (wrap64 ((aA.length : Int) - 1))).bind fun aP => (if aP = true then ((impl_FormOk.f k ((rd_T57 aO aM).f1) 0 (aA.length : Int) 0).bind fun aQ => (if aQ = true then (impl_compOk.l1 k aL aN aK aO aR (wrap64 (aM + 1)) aC aA aB aD aE aF aG aH aI aJ) else (some false))) else (some false))) else (none)) else (none)) else (impl_compOk.l0 k aL aN (wrap64 (aK + 1)) aC aA aB aD aE aF aG aH aI aJ)
end
def impl_compOk.f (k : Nat) (l0 : List (S48)) (a1 : Int) : Option (Bool):=if 0 ≤ a1 then (if a1 < (l0.length : Int) then ((impl_within.f ((rd_T48 l0 a1).f0) 0 3).bind fun aA => (if aA = true then (if (((rd_T48 l0 a1).f1).length : Int) > 3 then (impl_compOk.j0 k true ((rd_T48 l0 a1).f0) ((rd_T48 l0 a1).f1) ((rd_T48 l0 a1).f2) ((rd_T48 l0 a1).f3.f0) ((rd_T48 l0 a1).f3.f1) ((rd_T48 l0 a1).f3.f2) ((rd_T48 l0 a1).f3.f3) ((rd_T48 l0 a1).f3.f4) ((rd_T48 l0 a1).f3.f5) ((rd_T48 l0 a1).f3.f6)) else ((impl_valsOk.f k ((rd_T48 l0 a1).f1)).bind fun aB => (if aB = true then (impl_compOk.j0 k (decide ((((rd_T48 l0 a1).f2).length : Int) > 3)) ((rd_T48 l0 a1).f0) ((rd_T48 l0 a1).f1) ((rd_T48 l0 a1).f2) ((rd_T48 l0 a1).f3.f0) ((rd_T48 l0 a1).f3.f1) ((rd_T48 l0 a1).f3.f2) ((rd_T48 l0 a1).f3.f3) ((rd_T48 l0 a1).f3.f4) ((rd_T48 l0 a1).f3.f5) ((rd_T48 l0 a1).f3.f6)) else (impl_compOk.j0 k true ((rd_T48 l0 a1).f0) ((rd_T48 l0 a1).f1) ((rd_T48 l0 a1).f2) ((rd_T48 l0 a1).f3.f0) ((rd_T48 l0 a1).f3.f1) ((rd_T48 l0 a1).f3.f2) ((rd_T48 l0 a1).f3.f3) ((rd_T48 l0 a1).f3.f4) ((rd_T48 l0 a1).f3.f5) ((rd_T48 l0 a1).f3.f6))))) else (impl_compOk.j0 k true ((rd_T48 l0 a1).f0) ((rd_T48 l0 a1).f1) ((rd_T48 l0 a1).f2) ((rd_T48 l0 a1).f3.f0) ((rd_T48 l0 a1).f3.f1) ((rd_T48 l0 a1).f3.f2) ((rd_T48 l0 a1).f3.f3) ((rd_T48 l0 a1).f3.f4) ((rd_T48 l0 a1).f3.f5) ((rd_T48 l0 a1).f3.f6)))) else (none)) else (none)
set_option maxHeartbeats 8000000 in
set_option maxRecDepth 100000 in
theorem impl_compOk.calls (k : Nat) (A0 : Option Addr) (c0 : Nat) (l0 : List (S48)) (a1 : Int) (r : Bool) (w : World) (k8 : Kd.C k48 w A0 l0.length l0) (hc0 : l0.length ≤ c0) (h : impl_compOk.f k l0 a1 = some r) :
  Calls Try.prog 24 #[.slice A0 l0.length c0,.int .i64 a1] w fun e w' => e = .returned (.bool r) ∧ Below w.heap.size w w':=by
 have lM:=Try.underlying48;have lN:=Try.underlying57;have lO:=A_ k8;have lS:=A_ hc0;clear k8 hc0;have HB:=A_ (Below.refl w.heap.size w);have H:=h;unfold impl_compOk.f at H;clear h
 by_cases c3 : 0 ≤ a1
 ·rw [if_pos c3] at H
  have kX:=dt c3;clear c3
  by_cases c4 : a1 < (l0.length : Int)
  ·rw [if_pos c4] at H
   have kY:=dt c4;clear c4;have kZ:=A_ H;clear H;have b2 : 0 ≤ (a1 : Int):=odt;have b3 : a1 < (l0.length : Int):=odt;obtain ⟨k9,aC,aD,aH,aE,aI,aJ,aK,aL,aN,aO,aV,aW,aZ,a0,k0,b4,b5,b6,b7,b8,b9,cA,cB,cC,cD,bH,bI,bJ,bK,bL,bM,bN,bO,bP,bQ,bR,bT,bU,bV⟩:=at_T48 lO.out a1 b2 b3;cases k0;have bW:=A_ bI;have bX:=A_ bH;clear bI bH;have bY:=A_ bK;have eB:=A_ bJ;clear bK bJ;have eC:=A_ bM;have eD:=A_ bL;clear bM bL;have eE:=A_ bO;have eF:=A_ bN;clear bO bN;have eG:=A_ bQ;have eH:=A_ bP;clear bQ bP;have eI:=A_ bT;have eJ:=A_ bR;clear bT bR;have eK:=A_ bV;have eL:=A_ bU;clear bV bU;replace b2:=eq_true b2;replace b3:=eq_true b3
   go_enter Try.func24,Try.ntmps24
   go_upto_region 2 with (first | ((with_reducible refine gate_dst (N:=5) rfl ?_);(try (refine gate_guard (by rfl) ?_;dsimp only));refine be (cs:=#[.int .i64 0,.slice none 0 0,.slice none 0 0,.int .i64 0,.int .i64 0,.slice none 0 0,.slice none 0 0,.slice none 0 0,.slice none 0 0,.slice none 0 0]) (t:=48) ?_;intro aT hg w6 hbox hb;have aA:=A_ hbox;have d3:=A_ (gl hg (bz Z2));have aG:=d3;replace HB:=A_ (bst Z2 hb);clear hb hbox hg;obtain ⟨dD,dE,dF,dG,dH,dI,dJ,dK,dL,dM,dN,dO,dP,dQ,dR,dS,dT,dU,dV,dW⟩:=C10 aA.out))
   (try simp only [Act.put,List.setIfInBounds_toArray,List.set_cons_zero,List.set_cons_succ])
   go_cut [35] (fun lP wc => ∃ (kq : Nat) (bZ : Bool),lP = .bool bZ ∧ Aside0 (impl_compOk.j0 kq bZ ((rd_T48 l0 a1).f0) ((rd_T48 l0 a1).f1) ((rd_T48 l0 a1).f2) ((rd_T48 l0 a1).f3.f0) ((rd_T48 l0 a1).f3.f1) ((rd_T48 l0 a1).f3.f2) ((rd_T48 l0 a1).f3.f3) ((rd_T48 l0 a1).f3.f4) ((rd_T48 l0 a1).f3.f5) ((rd_T48 l0 a1).f3.f6) = some r) ∧ Aside0 (kq ≤ k) ∧ Aside0 (wc.heap[aT]? = some (.cells #[.int .i64 ((rd_T48 l0 a1).f0),(.slice aC ((rd_T48 l0 a1).f1).length aD),(.slice aH ((rd_T48 l0 a1).f2).length aE),.int .i64 ((rd_T48 l0 a1).f3.f0),.int .i64 ((rd_T48 l0 a1).f3.f1),(.slice aI ((rd_T48 l0 a1).f3.f2).length aJ),(.slice aK ((rd_T48 l0 a1).f3.f3).length aL),(.slice aN ((rd_T48 l0 a1).f3.f4).length aO),(.slice aV ((rd_T48 l0 a1).f3.f5).length aW),(.slice aZ ((rd_T48 l0 a1).f3.f6).length a0)] 48 (0,0))) ∧ Aside0 (Below w.heap.size w wc))
   case first =>
    have H:=kZ.out;clear kZ;replace H:=bS H;obtain ⟨k1,lA,H⟩:=H
    try dsimp only at H
    have A8:=A_ lA;clear lA
    by_cases c9 : k1 = true
    ·subst c9
     rw [if_pos rfl] at H
     by_cases c10 : (((rd_T48 l0 a1).f1).length : Int) > 3
     ·rw [if_pos c10] at H
      have bD : decide (3 < (((rd_T48 l0 a1).f1).length : Int)) = true:=dt c10;have d4 : decide (3 < ((rd_T48 l0 a1).f1).length) = true:=dt (by omega);clear c10;(first | rw [bD] | (simp only [i64_w,i32_w];rw [bD]) | skip);have H':=A_ H;clear H;obtain ⟨eM,eN,eO,eP,eQ,eR,eS,eT,eU,eV,eW,eX,eY,eZ,e0,e1,e2,e3,e4,e5⟩:=C10 aA.out
      go_wp2_with (first | ((with_reducible refine gate_callee (f:=14) rfl ?_);refine gL 16 Try.func14 #[.int .i64 ((rd_T48 l0 a1).f0),.int .i64 0,.int .i64 3] ?_;(with_reducible refine (impl_within.calls ((rd_T48 l0 a1).f0) 0 3 true _ A8.out).mono ?_);rintro e w' ⟨rfl,⟨nd,rfl⟩⟩;refine ⟨_,rfl,?_⟩))
      go_meet
      case rel => exact ⟨_,(true),Z22,H',⟨Z47⟩,⟨bp0 aA.out⟩,⟨Z3 aG.out⟩⟩
     ·rw [if_neg c10] at H
      have bD : decide (3 < (((rd_T48 l0 a1).f1).length : Int)) = false:=df c10;have d4 : decide (3 < ((rd_T48 l0 a1).f1).length) = false:=df (by omega);clear c10;(first | rw [bD] | (simp only [i64_w,i32_w];rw [bD]) | skip);replace H:=bS H;obtain ⟨k4,d5,H⟩:=H
      try dsimp only at H
      have lB:=A_ d5;clear d5
      by_cases e6 : k4 = true
      ·subst e6
       rw [if_pos rfl] at H;have H':=A_ H;clear H;obtain ⟨e7,e8,e9,fA,fB,fC,fD,fE,fF,fG,fH,fI,fJ,fK,fL,fM,fN,fO,fP,fQ⟩:=C10 aA.out
       go_wp2_with (first | ((with_reducible refine gate_callee (f:=14) rfl ?_);refine gL 16 Try.func14 #[.int .i64 ((rd_T48 l0 a1).f0),.int .i64 0,.int .i64 3] ?_;(with_reducible refine (impl_within.calls ((rd_T48 l0 a1).f0) 0 3 true _ A8.out).mono ?_);rintro e w' ⟨rfl,⟨nd,rfl⟩⟩;refine ⟨_,rfl,?_⟩) | (go_at_call 36;(with_reducible refine (impl_valsOk.calls k _ _ ((rd_T48 l0 a1).f1) true _ ?s1 bX.out lB.out).mono ?_);(case s1 => exact Kd.C_below bW.out (Z3 aG.out));rintro e lT ⟨rfl,hb⟩;replace aA:=A_ (bb (g:=aT) (o:=.cells #[.int .i64 ((rd_T48 l0 a1).f0),.slice aC ((rd_T48 l0 a1).f1).length aD,.slice aH ((rd_T48 l0 a1).f2).length aE,.int .i64 ((rd_T48 l0 a1).f3.f0),.int .i64 ((rd_T48 l0 a1).f3.f1),.slice aI ((rd_T48 l0 a1).f3.f2).length aJ,.slice aK ((rd_T48 l0 a1).f3.f3).length aL,.slice aN ((rd_T48 l0 a1).f3.f4).length aO,.slice aV ((rd_T48 l0 a1).f3.f5).length aW,.slice aZ ((rd_T48 l0 a1).f3.f6).length a0] 48 (0,0)) (bp0 aA.out) hb);replace HB:=A_ (bst (Z3 aG.out) hb);(try clear hb);obtain ⟨fR,fS,fT,fU,fV,fW,fX,fY,fZ,f7,f8,f9,gA,gB,gC,gD,gE,gF,gG,gH⟩:=C10 aA.out))
       go_meet
       case rel => exact ⟨_,(decide ((((rd_T48 l0 a1).f2).length : Int) > 3)),Z22,H',⟨Z47⟩,⟨Z1 aA.out⟩,⟨Z3 aG.out⟩⟩
      ·replace e6:=Bool.eq_false_iff.mpr e6
       subst e6;rw [if_neg (show ¬ (false = true) by decide)] at H;have H':=A_ H;clear H;obtain ⟨gI,gJ,gK,gM,gN,gO,gP,gQ,gR,gS,gT,gU,gV,gW,gX,gY,gZ,hD,hI,hJ⟩:=C10 aA.out
       go_wp2_with (first | ((with_reducible refine gate_callee (f:=14) rfl ?_);refine gL 16 Try.func14 #[.int .i64 ((rd_T48 l0 a1).f0),.int .i64 0,.int .i64 3] ?_;(with_reducible refine (impl_within.calls ((rd_T48 l0 a1).f0) 0 3 true _ A8.out).mono ?_);rintro e w' ⟨rfl,⟨nd,rfl⟩⟩;refine ⟨_,rfl,?_⟩) | (go_at_call 36;(with_reducible refine (impl_valsOk.calls k _ _ ((rd_T48 l0 a1).f1) false _ ?s1 bX.out lB.out).mono ?_);(case s1 => exact Kd.C_below bW.out (Z3 aG.out));rintro e lU ⟨rfl,hb⟩;replace aA:=A_ (bb (g:=aT) (o:=.cells #[.int .i64 ((rd_T48 l0 a1).f0),.slice aC ((rd_T48 l0 a1).f1).length aD,.slice aH ((rd_T48 l0 a1).f2).length aE,.int .i64 ((rd_T48 l0 a1).f3.f0),.int .i64 ((rd_T48 l0 a1).f3.f1),.slice aI ((rd_T48 l0 a1).f3.f2).length aJ,.slice aK ((rd_T48 l0 a1).f3.f3).length aL,.slice aN ((rd_T48 l0 a1).f3.f4).length aO,.slice aV ((rd_T48 l0 a1).f3.f5).length aW,.slice aZ ((rd_T48 l0 a1).f3.f6).length a0] 48 (0,0)) (bp0 aA.out) hb);replace HB:=A_ (bst (Z3 aG.out) hb);(try clear hb)))
       go_meet
       case rel => exact ⟨_,(true),Z22,H',⟨Z47⟩,⟨Z1 aA.out⟩,⟨Z3 aG.out⟩⟩
    ·replace c9:=Bool.eq_false_iff.mpr c9
     subst c9;rw [if_neg (show ¬ (false = true) by decide)] at H;have H':=A_ H;clear H;obtain ⟨hL,hO,hU,hV,hX,hY,hZ,iA,iB,iC,iD,iE,iF,iG,iH,iI,iJ,iK,iL,iM⟩:=C10 aA.out
     go_wp2_with (first | ((with_reducible refine gate_callee (f:=14) rfl ?_);refine gL 16 Try.func14 #[.int .i64 ((rd_T48 l0 a1).f0),.int .i64 0,.int .i64 3] ?_;(with_reducible refine (impl_within.calls ((rd_T48 l0 a1).f0) 0 3 false _ A8.out).mono ?_);rintro e w' ⟨rfl,⟨nd,rfl⟩⟩;refine ⟨_,rfl,?_⟩))
     go_meet
     case rel => exact ⟨_,(true),Z22,H',⟨Z47⟩,⟨bp0 aA.out⟩,⟨Z3 aG.out⟩⟩
   case rest =>
    clear kZ kX kY dD dE dF dG dH dI dJ dK dL dM dN dO dP dQ dR dS dT dU dV dW b4 b5 b6 b7 b8 b9 cA cB cC cD b2 b3;obtain ⟨kq,bZ,rfl,HA,iN,aA,HB⟩:=hcut
    cases kq with
    | zero => exact absurd HA.out (by simp [impl_compOk.j0])
    | succ lC =>
     have H:=HA.out;clear HA;simp only [impl_compOk.j0] at H
     by_cases iO : bZ = true
     ·subst iO
      rw [if_pos rfl] at H;obtain rfl:=Option.some.inj H
      go_wp2
      go_ret
      exact ⟨Z12,Z3 aG.out⟩
     ·replace iO:=Bool.eq_false_iff.mpr iO
      subst iO;rw [if_neg (show ¬ (false = true) by decide)] at H;have H':=A_ H;clear H;obtain ⟨cE,cF,cG,cH,cI,cJ,cK,cL,cM,cN,cO,cP,cQ,cR,cS,cT,cU,cV,cW,cX⟩:=C10 aA.out
      go_wp2
      go_loopg [39] lC (fun kq lQ w' => ∃ (aB : Int),lQ = .int .i64 aB ∧ Aside0 (impl_compOk.l0 kq ((rd_T48 l0 a1).f2) (((rd_T48 l0 a1).f2).length : Int) aB ((rd_T48 l0 a1).f0) ((rd_T48 l0 a1).f1) ((rd_T48 l0 a1).f2) ((rd_T48 l0 a1).f3.f0) ((rd_T48 l0 a1).f3.f1) ((rd_T48 l0 a1).f3.f2) ((rd_T48 l0 a1).f3.f3) ((rd_T48 l0 a1).f3.f4) ((rd_T48 l0 a1).f3.f5) ((rd_T48 l0 a1).f3.f6) = some r) ∧ Aside0 (kq ≤ lC) ∧ Aside0 (w'.heap[aT]? = some (.cells #[.int .i64 ((rd_T48 l0 a1).f0),(.slice aC ((rd_T48 l0 a1).f1).length aD),(.slice aH ((rd_T48 l0 a1).f2).length aE),.int .i64 ((rd_T48 l0 a1).f3.f0),.int .i64 ((rd_T48 l0 a1).f3.f1),(.slice aI ((rd_T48 l0 a1).f3.f2).length aJ),(.slice aK ((rd_T48 l0 a1).f3.f3).length aL),(.slice aN ((rd_T48 l0 a1).f3.f4).length aO),(.slice aV ((rd_T48 l0 a1).f3.f5).length aW),(.slice aZ ((rd_T48 l0 a1).f3.f6).length a0)] 48 (0,0))) ∧ Aside0 (Below w.heap.size w w'))
      case atStart => exact ⟨(0),Z22,H',⟨Nat.le_refl _⟩,⟨Z1 aA.out⟩,⟨Z3 aG.out⟩⟩
      case round =>
       clear H' cE cF cG cH cI cJ cK cL cM cN cO cP cQ cR cS cT cU cV cW cX;obtain ⟨aB,rfl,HA,HK2,aA,HB⟩:=hrel
       cases gk with
       | zero => exact absurd HA.out (by simp [impl_compOk.l0])
       | succ k2 =>
        have H:=HA.out;clear HA;simp only [impl_compOk.l0] at H
        by_cases d0 : aB < (((rd_T48 l0 a1).f2).length : Int)
        ·rw [if_pos d0] at H
         have cZ:=dt d0;clear d0
         by_cases iP : 0 ≤ aB
         ·rw [if_pos iP] at H
          have d6:=dt iP;clear iP
          by_cases iQ : aB < (((rd_T48 l0 a1).f2).length : Int)
          ·rw [if_pos iQ] at H
           have d7:=dt iQ;clear iQ
           by_cases d1 : ((rd_L7 ((rd_T48 l0 a1).f2) aB).length : Int) > 3
           ·rw [if_pos d1] at H
            have dA : decide (3 < ((rd_L7 ((rd_T48 l0 a1).f2) aB).length : Int)) = true:=dt d1;have dB : decide (3 < (rd_L7 ((rd_T48 l0 a1).f2) aB).length) = true:=dt (by omega);clear d1;obtain rfl:=Option.some.inj H;have bE : 0 ≤ (aB : Int):=odt;have bF : aB < (((rd_T48 l0 a1).f2).length : Int):=odt;obtain ⟨b0,dX,dY,dZ,aX,a2,a3⟩:=at_L7 bY.out aB bE bF;cases dZ;replace aX:=ZC HB.out aX;have a6:=A_ a3;have cY:=A_ a2;clear a3 a2;replace bE:=eq_true bE;replace bF:=eq_true bF
            go_wp2
            go_ret
            exact ⟨Z12,Z3 aG.out⟩
           ·rw [if_neg d1] at H
            have dA : decide (3 < ((rd_L7 ((rd_T48 l0 a1).f2) aB).length : Int)) = false:=df d1;have dB : decide (3 < (rd_L7 ((rd_T48 l0 a1).f2) aB).length) = false:=df (by omega);clear d1;have H':=A_ H;clear H;have bE : 0 ≤ (aB : Int):=odt;have bF : aB < (((rd_T48 l0 a1).f2).length : Int):=odt;obtain ⟨b0,dX,dY,dZ,aX,a2,a3⟩:=at_L7 bY.out aB bE bF;cases dZ;replace aX:=ZC HB.out aX;have a6:=A_ a3;have cY:=A_ a2;clear a3 a2;replace bE:=eq_true bE;replace bF:=eq_true bF
            go_wp2
            go_loopg [48] k2 (fun kq lR w' => ∃ (aF : Int),lR = .int .i64 aF ∧ Aside0 (impl_compOk.l1 kq ((rd_T48 l0 a1).f2) (((rd_T48 l0 a1).f2).length : Int) aB (rd_L7 ((rd_T48 l0 a1).f2) aB) ((rd_L7 ((rd_T48 l0 a1).f2) aB).length : Int) aF ((rd_T48 l0 a1).f0) ((rd_T48 l0 a1).f1) ((rd_T48 l0 a1).f2) ((rd_T48 l0 a1).f3.f0) ((rd_T48 l0 a1).f3.f1) ((rd_T48 l0 a1).f3.f2) ((rd_T48 l0 a1).f3.f3) ((rd_T48 l0 a1).f3.f4) ((rd_T48 l0 a1).f3.f5) ((rd_T48 l0 a1).f3.f6) = some r) ∧ Aside0 (kq ≤ k2) ∧ Aside0 (w'.heap[aT]? = some (.cells #[.int .i64 ((rd_T48 l0 a1).f0),(.slice aC ((rd_T48 l0 a1).f1).length aD),(.slice (some b0) ((rd_T48 l0 a1).f2).length aE),.int .i64 ((rd_T48 l0 a1).f3.f0),.int .i64 ((rd_T48 l0 a1).f3.f1),(.slice aI ((rd_T48 l0 a1).f3.f2).length aJ),(.slice aK ((rd_T48 l0 a1).f3.f3).length aL),(.slice aN ((rd_T48 l0 a1).f3.f4).length aO),(.slice aV ((rd_T48 l0 a1).f3.f5).length aW),(.slice aZ ((rd_T48 l0 a1).f3.f6).length a0)] 48 (0,0))) ∧ Aside0 (Below w.heap.size w w'))
            case atStart => exact ⟨(0),Z22,H',⟨Nat.le_refl _⟩,⟨Z1 aA.out⟩,⟨Z3 aG.out⟩⟩
            case round =>
             clear H' cZ d6 d7 dA dB aX bE bF;obtain ⟨aF,rfl,HA,HK3,aA,HB⟩:=hrel
             cases gk with
             | zero => exact absurd HA.out (by simp [impl_compOk.l1])
             | succ k3 =>
              have H:=HA.out;clear HA;simp only [impl_compOk.l1] at H
              by_cases d2 : aF < ((rd_L7 ((rd_T48 l0 a1).f2) aB).length : Int)
              ·rw [if_pos d2] at H
               have d8:=dt d2;clear d2
               by_cases iR : 0 ≤ aF
               ·rw [if_pos iR] at H
                have lD:=dt iR;clear iR
                by_cases iS : aF < ((rd_L7 ((rd_T48 l0 a1).f2) aB).length : Int)
                ·rw [if_pos iS] at H
                 have lE:=dt iS;clear iS;replace H:=bS H;obtain ⟨k5,d9,H⟩:=H
                 try dsimp only at H
                 have k6:=A_ d9;clear d9
                 by_cases iT : k5 = true
                 ·subst iT
                  rw [if_pos rfl] at H;replace H:=bS H;obtain ⟨k7,eA,H⟩:=H
                  try dsimp only at H
                  have lF:=A_ eA;clear eA
                  by_cases iU : k7 = true
                  ·subst iU
                   rw [if_pos rfl] at H;have H':=A_ H;clear H;have a9 : 0 ≤ (aF : Int):=odt;have bA : aF < ((rd_L7 ((rd_T48 l0 a1).f2) aB).length : Int):=odt;obtain ⟨dC,bB,bC,b1,aP,aQ,aR,aS⟩:=at_T57 a6.out aF a9 bA;cases b1;replace aP:=ZC HB.out aP;replace aQ:=ZC HB.out aQ;have a7:=A_ aS;have a8:=A_ aR;clear aS aR;replace a9:=eq_true a9;replace bA:=eq_true bA
                   go_wp2_with (first | ((with_reducible refine gate_dst (N:=9) rfl ?_);(try (refine gate_guard (by rfl) ?_;dsimp only));refine be (cs:=#[.int .i64 0,.slice none 0 0]) (t:=57) ?_;intro aY hg lV hbox hb;have a4:=A_ hbox;have bG:=A_ (gl hg (bz (Z3 aG.out)));have a5:=bG;replace HB:=A_ (bst (Z3 aG.out) hb);have aM:=A_ ((by rw [hg];exact nl (blk_lt (Z1 aA.out)) : aT ≠ aY));have aU:=A_ ((by rw [hg];exact Nat.ne_of_gt (blk_lt (Z1 aA.out)) : aY ≠ aT));replace aA:=A_ (bb (Z1 aA.out) hb);clear hb hbox hg;have lG:=aU.out;have lH:=aM.out;obtain ⟨iV,iW,iX,iY⟩:=C2 a4.out;obtain ⟨iZ,i1,i2,i3,i4,i5,i6,i7,i8,i9,jA,jB,jC,jD,jE,jF,jG,jH,jI,jJ⟩:=C10 aA.out) | ((with_reducible refine gate_callee (f:=14) rfl ?_);refine gL 58 Try.func14 #[.int .i64 ((rd_T57 (rd_L7 ((rd_T48 l0 a1).f2) aB) aF).f0),.int .i64 0,.int .i64 (wrap64 ((((rd_T48 l0 a1).f1).length : Int) - 1))] ?_;(with_reducible refine (impl_within.calls ((rd_T57 (rd_L7 ((rd_T48 l0 a1).f2) aB) aF).f0) 0 (wrap64 ((((rd_T48 l0 a1).f1).length : Int) - 1)) true _ k6.out).mono ?_);rintro e w' ⟨rfl,⟨nd,rfl⟩⟩;refine ⟨_,rfl,?_⟩) | (go_at_call 37;(with_reducible refine (impl_FormOk.calls k3 _ _ ((rd_T57 (rd_L7 ((rd_T48 l0 a1).f2) aB) aF).f1) 0 (((rd_T48 l0 a1).f1).length : Int) 0 true _ ?s1 a8.out lF.out).mono ?_);(case s1 => exact Kd.C_below a7.out (Z8 aG.out a5.out));rintro e lW ⟨rfl,hb⟩;replace aA:=A_ (bb (g:=aT) (o:=.cells #[.int .i64 ((rd_T48 l0 a1).f0),.slice aC ((rd_T48 l0 a1).f1).length aD,.slice (some b0) ((rd_T48 l0 a1).f2).length aE,.int .i64 ((rd_T48 l0 a1).f3.f0),.int .i64 ((rd_T48 l0 a1).f3.f1),.slice aI ((rd_T48 l0 a1).f3.f2).length aJ,.slice aK ((rd_T48 l0 a1).f3.f3).length aL,.slice aN ((rd_T48 l0 a1).f3.f4).length aO,.slice aV ((rd_T48 l0 a1).f3.f5).length aW,.slice aZ ((rd_T48 l0 a1).f3.f6).length a0] 48 (0,0)) (Z26 aM.out aA.out) hb);replace a4:=A_ (bb (g:=aY) (o:=.cells #[.int .i64 ((rd_T57 (rd_L7 ((rd_T48 l0 a1).f2) aB) aF).f0),.slice bB ((rd_T57 (rd_L7 ((rd_T48 l0 a1).f2) aB) aF).f1).length bC] 57 (0,0)) (bp0 a4.out) hb);replace HB:=A_ (bst (Z8 aG.out a5.out) hb);(try clear hb)))
                   go_roundg k3
                   case measure => have:=iN.out;have:=HK2.out;have:=HK3.out;omega
                   case rel => exact ⟨(wrap64 (aF + 1)),Z22,H',⟨by have:=iN.out;have:=HK2.out;have:=HK3.out;omega⟩,⟨Z1 aA.out⟩,⟨Z8 aG.out a5.out⟩⟩
                  ·replace iU:=Bool.eq_false_iff.mpr iU
                   subst iU;rw [if_neg (show ¬ (false = true) by decide)] at H;obtain rfl:=Option.some.inj H;have a9 : 0 ≤ (aF : Int):=odt;have bA : aF < ((rd_L7 ((rd_T48 l0 a1).f2) aB).length : Int):=odt;obtain ⟨dC,bB,bC,b1,aP,aQ,aR,aS⟩:=at_T57 a6.out aF a9 bA;cases b1;replace aP:=ZC HB.out aP;replace aQ:=ZC HB.out aQ;have a7:=A_ aS;have a8:=A_ aR;clear aS aR;replace a9:=eq_true a9;replace bA:=eq_true bA
                   go_wp2_with (first | ((with_reducible refine gate_dst (N:=9) rfl ?_);(try (refine gate_guard (by rfl) ?_;dsimp only));refine be (cs:=#[.int .i64 0,.slice none 0 0]) (t:=57) ?_;intro aY hg lX hbox hb;have a4:=A_ hbox;have bG:=A_ (gl hg (bz (Z3 aG.out)));have a5:=bG;replace HB:=A_ (bst (Z3 aG.out) hb);have aM:=A_ ((by rw [hg];exact nl (blk_lt (Z1 aA.out)) : aT ≠ aY));have aU:=A_ ((by rw [hg];exact Nat.ne_of_gt (blk_lt (Z1 aA.out)) : aY ≠ aT));replace aA:=A_ (bb (Z1 aA.out) hb);clear hb hbox hg;have lI:=aU.out;have lJ:=aM.out;obtain ⟨jK,jL,jM,jN⟩:=C2 a4.out;obtain ⟨jO,jP,jQ,jR,jS,jT,jU,jV,jW,jX,jY,jZ,j1,j2,j3,j4,j5,j6,j7,j8⟩:=C10 aA.out) | ((with_reducible refine gate_callee (f:=14) rfl ?_);refine gL 58 Try.func14 #[.int .i64 ((rd_T57 (rd_L7 ((rd_T48 l0 a1).f2) aB) aF).f0),.int .i64 0,.int .i64 (wrap64 ((((rd_T48 l0 a1).f1).length : Int) - 1))] ?_;(with_reducible refine (impl_within.calls ((rd_T57 (rd_L7 ((rd_T48 l0 a1).f2) aB) aF).f0) 0 (wrap64 ((((rd_T48 l0 a1).f1).length : Int) - 1)) true _ k6.out).mono ?_);rintro e w' ⟨rfl,⟨nd,rfl⟩⟩;refine ⟨_,rfl,?_⟩) | (go_at_call 37;(with_reducible refine (impl_FormOk.calls k3 _ _ ((rd_T57 (rd_L7 ((rd_T48 l0 a1).f2) aB) aF).f1) 0 (((rd_T48 l0 a1).f1).length : Int) 0 false _ ?s1 a8.out lF.out).mono ?_);(case s1 => exact Kd.C_below a7.out (Z8 aG.out a5.out));rintro e lY ⟨rfl,hb⟩;replace aA:=A_ (bb (g:=aT) (o:=.cells #[.int .i64 ((rd_T48 l0 a1).f0),.slice aC ((rd_T48 l0 a1).f1).length aD,.slice (some b0) ((rd_T48 l0 a1).f2).length aE,.int .i64 ((rd_T48 l0 a1).f3.f0),.int .i64 ((rd_T48 l0 a1).f3.f1),.slice aI ((rd_T48 l0 a1).f3.f2).length aJ,.slice aK ((rd_T48 l0 a1).f3.f3).length aL,.slice aN ((rd_T48 l0 a1).f3.f4).length aO,.slice aV ((rd_T48 l0 a1).f3.f5).length aW,.slice aZ ((rd_T48 l0 a1).f3.f6).length a0] 48 (0,0)) (Z26 aM.out aA.out) hb);replace a4:=A_ (bb (g:=aY) (o:=.cells #[.int .i64 ((rd_T57 (rd_L7 ((rd_T48 l0 a1).f2) aB) aF).f0),.slice bB ((rd_T57 (rd_L7 ((rd_T48 l0 a1).f2) aB) aF).f1).length bC] 57 (0,0)) (bp0 a4.out) hb);replace HB:=A_ (bst (Z8 aG.out a5.out) hb);(try clear hb)))
                   go_ret
                   exact ⟨Z12,Z8 aG.out a5.out⟩
                 ·replace iT:=Bool.eq_false_iff.mpr iT
                  subst iT;rw [if_neg (show ¬ (false = true) by decide)] at H;obtain rfl:=Option.some.inj H;have a9 : 0 ≤ (aF : Int):=odt;have bA : aF < ((rd_L7 ((rd_T48 l0 a1).f2) aB).length : Int):=odt;obtain ⟨dC,bB,bC,b1,aP,aQ,aR,aS⟩:=at_T57 a6.out aF a9 bA;cases b1;replace aP:=ZC HB.out aP;replace aQ:=ZC HB.out aQ;have a7:=A_ aS;have a8:=A_ aR;clear aS aR;replace a9:=eq_true a9;replace bA:=eq_true bA
                  go_wp2_with (first | ((with_reducible refine gate_dst (N:=9) rfl ?_);(try (refine gate_guard (by rfl) ?_;dsimp only));refine be (cs:=#[.int .i64 0,.slice none 0 0]) (t:=57) ?_;intro aY hg lZ hbox hb;have a4:=A_ hbox;have bG:=A_ (gl hg (bz (Z3 aG.out)));have a5:=bG;replace HB:=A_ (bst (Z3 aG.out) hb);have aM:=A_ ((by rw [hg];exact nl (blk_lt (Z1 aA.out)) : aT ≠ aY));have aU:=A_ ((by rw [hg];exact Nat.ne_of_gt (blk_lt (Z1 aA.out)) : aY ≠ aT));replace aA:=A_ (bb (Z1 aA.out) hb);clear hb hbox hg;have lK:=aU.out;have lL:=aM.out;obtain ⟨j9,kA,kB,kC⟩:=C2 a4.out;obtain ⟨kD,kE,kF,kG,kH,kI,kJ,kK,kL,kM,kN,kO,kP,kQ,kR,kS,kT,kU,kV,kW⟩:=C10 aA.out) | ((with_reducible refine gate_callee (f:=14) rfl ?_);refine gL 58 Try.func14 #[.int .i64 ((rd_T57 (rd_L7 ((rd_T48 l0 a1).f2) aB) aF).f0),.int .i64 0,.int .i64 (wrap64 ((((rd_T48 l0 a1).f1).length : Int) - 1))] ?_;(with_reducible refine (impl_within.calls ((rd_T57 (rd_L7 ((rd_T48 l0 a1).f2) aB) aF).f0) 0 (wrap64 ((((rd_T48 l0 a1).f1).length : Int) - 1)) false _ k6.out).mono ?_);rintro e w' ⟨rfl,⟨nd,rfl⟩⟩;refine ⟨_,rfl,?_⟩))
                  go_ret
                  exact ⟨Z12,Z8 aG.out a5.out⟩
                ·rw [if_neg iS] at H
                 exact absurd H (by simp)
               ·rw [if_neg iR] at H
                exact absurd H (by simp)
              ·rw [if_neg d2] at H
               have d8:=df d2;clear d2;have H':=A_ H;clear H
               go_wp2
               go_roundg k3
               case measure => have:=iN.out;have:=HK2.out;have:=HK3.out;omega
               case rel => exact ⟨(wrap64 (aB + 1)),Z22,H',⟨by have:=iN.out;have:=HK2.out;have:=HK3.out;omega⟩,⟨Z1 aA.out⟩,⟨Z3 aG.out⟩⟩
          ·rw [if_neg iQ] at H
           exact absurd H (by simp)
         ·rw [if_neg iP] at H
          exact absurd H (by simp)
        ·rw [if_neg d0] at H
         have cZ:=df d0;clear d0;obtain rfl:=Option.some.inj H
         go_wp2
         go_ret
         exact ⟨Z12,Z3 aG.out⟩
  ·rw [if_neg c4] at H
   exact absurd H (by simp)
 ·rw [if_neg c3] at H
  exact absurd H (by simp)
end Go.Proofs.Ytmgdjmeoljepgaa.PFnProgBelow
