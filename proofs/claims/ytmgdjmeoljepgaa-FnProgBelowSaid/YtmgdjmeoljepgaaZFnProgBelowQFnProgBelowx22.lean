/- Walks (lines of the print; no condition). -/
import Derived.Test.YtmgdjmeoljepgaaZFnProgBelowQFnProgBelowx19
import Derived.Test.YtmgdjmeoljepgaaZFnProgBelowQFnProgBelowx21
namespace Go.Proofs.Ytmgdjmeoljepgaa.PFnProgBelow
open Go.RowKit Go.Proofs.YtmgdjmeoljepgaaW.PrintWords Go.Proofs.YtmgdjmeoljepgaaW.PrintLast Go.Proofs.YtmgdjmeoljepgaaW.PrintMore
attribute [local go_sem] max2_int min2_int max_two min_two max_three min_three max_four min_four
set_option linter.unusedVariables false
set_option linter.unusedSimpArgs false
set_option maxHeartbeats 8000000
set_option maxRecDepth 100000
mutual
def impl_tmplSize.l0 : Nat → List (S48) → Int → List (S46) → Int → Int → Int → Int → List Int → List (List (S70)) → List (S70) → List (S76) → List (S46) → Option (Int)
 | 0,_,_,_,_,_,_,_,_,_,_,_,_ => none
 | k + 1,x0,x5,x9,aR,aC,aB,aA,aD,aE,aF,aG,aH => if aC < aR then (if 0 ≤ aC then (if aC < (x9.length : Int) then ((impl_tmplSize.f k x0 ((rd_T46 x9 aC).f0) ((rd_T46 x9 aC).f1) ((rd_T46 x9 aC).f2) ((rd_T46 x9 aC).f3) ((rd_T46 x9 aC).f4) ((rd_T46 x9 aC).f5) ((rd_T46 x9 aC).f6)).bind fun aJ => (impl_tmplSize.l0 k x0 (wrap64 (x5 + aJ)) x9 aR (wrap64 (aC + 1)) aB aA aD aE aF aG aH)) else (none)) else (none)) else (if aB = 3 then (some (wrap64 ((wrap64 (x5 * 4)) + 1))) else (if aB = 4 then (if 0 ≤ aA then (if aA < (x0.length : Int) then ((impl_tmplSize.f k x0 ((rd_T48 x0 aA).f3.f0) ((rd_T48 x0 aA).f3.f1) ((rd_T48 x0 aA).f3.f2) ((rd_T48 x0 aA).f3.f3) ((rd_T48 x0 aA).f3.f4) ((rd_T48 x0 aA).f3.f5) ((rd_T48 x0 aA).f3.f6)).bind fun aK => (some (wrap64 ((wrap64 (x5 + aK)) + 1)))) else (none)) else (none)) else (some (wrap64 (x5 + 1)))))
def impl_tmplSize.f : Nat → List (S48) → Int → Int → List Int → List (List (S70)) → List (S70) → List (S76) → List (S46) → Option (Int)
 | 0,_,_,_,_,_,_,_,_ => none
 | k + 1,l0,aL,aM,aN,aO,aP,aQ,aI => impl_tmplSize.l0 k l0 0 aI (aI.length : Int) 0 aL aM aN aO aP aQ aI
end
theorem impl_tmplSize.calls (k : Nat) : ∀ (A0 : Option Addr) (c0 : Nat) (l0 : List (S48)) (aF : Int) (aC : Int) (bU : Option Addr) (bV : Nat) (aH : List Int) (bW : Option Addr) (bX : Nat) (aI : List (List (S70))) (bY : Option Addr) (bZ : Nat) (aJ : List (S70)) (b0 : Option Addr) (b1 : Nat) (aK : List (S76)) (b4 : Option Addr) (b2 : Nat) (aB : List (S46)) (r : Int) (w : World) (gQ : Kd.C k48 w A0 l0.length l0) (hc0 : l0.length ≤ c0) (b5 : Kd.C (Kd.int .i64) w bU aH.length aH) (b6 : aH.length ≤ bV) (b7 : Kd.C (Kd.slice 70 k70) w bW aI.length aI) (b8 : aI.length ≤ bX) (b9 : Kd.C k70 w bY aJ.length aJ) (cA : aJ.length ≤ bZ) (cB : Kd.C k76 w b0 aK.length aK) (cC : aK.length ≤ b1) (cD : Kd.C k46 w b4 aB.length aB) (cE : aB.length ≤ b2) (h : impl_tmplSize.f k l0 aF aC aH aI aJ aK aB = some r),
  Calls Try.prog 26 #[.slice A0 l0.length c0,.agg #[.int .i64 aF,.int .i64 aC,.slice bU aH.length bV,.slice bW aI.length bX,.slice bY aJ.length bZ,.slice b0 aK.length b1,.slice b4 aB.length b2]] w fun e w' => e = .returned (.int .i64 r) ∧ Below w.heap.size w w':=by
 induction k using Nat.strongRecOn with
 | _ k ih =>
 intro A0 c0 l0 aF aC bU bV aH bW bX aI bY bZ aJ b0 b1 aK b4 b2 aB r w gQ hc0 b5 b6 b7 b8 b9 cA cB cC cD cE h
 cases k with
 | zero => exact absurd h (by simp [impl_tmplSize.f])
 | succ k =>
 simp only [impl_tmplSize.f] at h;have iF:=Try.underlying46;have gR:=A_ gQ;have hD:=A_ hc0;clear gQ hc0;have hI:=A_ b5;have hJ:=A_ b6;clear b5 b6;have hL:=A_ b7;have hO:=A_ b8;clear b7 b8;have hU:=A_ b9;have hV:=A_ cA;clear b9 cA;have hX:=A_ cB;have hY:=A_ cC;clear cB cC;have eG:=A_ cD;have hZ:=A_ cE;clear cD cE;have HB:=A_ (Below.refl w.heap.size w);have H:=h;unfold impl_tmplSize.f at H;clear h;have H':=A_ H;clear H
 go_enter Try.func26,Try.ntmps26
 go_wp2_with (first | ((with_reducible refine gate_dst (N:=3) rfl ?_);refine be (cs:=#[.int .i64 aF,.int .i64 aC,.slice bU aH.length bV,.slice bW aI.length bX,.slice bY aJ.length bZ,.slice b0 aK.length b1,.slice b4 aB.length b2]) (t:=46) ?_;intro aM hg w3 hbox hb;have aD:=A_ hbox;have eH:=A_ (gl hg (bz Z2));have aE:=eH;replace HB:=A_ (bst Z2 hb);clear hb hbox hg;obtain ⟨dM,dN,dO,dP,dQ,dR,dS,dT,dU,dV,dW,dX,dY,dZ⟩:=C7 aD.out))
 go_loopg [5,11] k (fun kq v5 iG w' => ∃ (cR : Int) (aA : Int),v5 = .int .i64 cR ∧ iG = .int .i64 aA ∧ Aside0 (impl_tmplSize.l0 kq l0 cR aB (aB.length : Int) aA aF aC aH aI aJ aK aB = some r) ∧ Aside0 (kq ≤ k) ∧ Aside0 (w'.heap[aM]? = some (.cells #[.int .i64 aF,.int .i64 aC,(.slice bU aH.length bV),(.slice bW aI.length bX),(.slice bY aJ.length bZ),(.slice b0 aK.length b1),(.slice b4 aB.length b2)] 46 (0,0))) ∧ Aside0 (Below w.heap.size w w'))
 case atStart => exact ⟨(0),(0),Z22,Z22,H',⟨Nat.le_refl _⟩,⟨Z1 aD.out⟩,⟨Z3 aE.out⟩⟩
 case round =>
  clear H' dM dN dO dP dQ dR dS dT dU dV dW dX dY dZ;obtain ⟨cR,aA,rfl,rfl,HA,eR,aD,HB⟩:=hrel
  cases gk with
  | zero => exact absurd HA.out (by simp [impl_tmplSize.l0])
  | succ k1 =>
   have H:=HA.out;clear HA;simp only [impl_tmplSize.l0] at H
   by_cases c5 : aA < (aB.length : Int)
   ·rw [if_pos c5] at H
    have gS:=dt c5;clear c5
    by_cases c6 : 0 ≤ aA
    ·rw [if_pos c6] at H
     have iH:=dt c6;clear c6
     by_cases c7 : aA < (aB.length : Int)
     ·rw [if_pos c7] at H
      have iI:=dt c7;clear c7;replace H:=bS H;obtain ⟨eI,iA,H⟩:=H
      try dsimp only at H
      have A8:=A_ iA;clear iA;have H':=A_ H;clear H;have d0 : 0 ≤ (aA : Int):=odt;have d1 : aA < (aB.length : Int):=odt;obtain ⟨eJ,cF,cG,cH,cI,cJ,cK,cL,cM,cN,cO,gT,aN,aO,aP,aQ,aR,aS,aT,aU,aV,aW,aX,aY,aZ,a0,a2,a3,a4⟩:=at_T46 eG.out aA d0 d1;cases gT;replace aN:=ZC HB.out aN;replace aO:=ZC HB.out aO;replace aP:=ZC HB.out aP;replace aQ:=ZC HB.out aQ;replace aR:=ZC HB.out aR;replace aS:=ZC HB.out aS;replace aT:=ZC HB.out aT;have cS:=A_ aV;have cT:=A_ aU;clear aV aU;have cU:=A_ aX;have cV:=A_ aW;clear aX aW;have cW:=A_ aZ;have cX:=A_ aY;clear aZ aY;have cY:=A_ a2;have cZ:=A_ a0;clear a2 a0;have dA:=A_ a4;have dB:=A_ a3;clear a4 a3;replace d0:=eq_true d0;replace d1:=eq_true d1
      go_wp2_with (first | ((with_reducible refine gate_dst (N:=7) rfl ?_);refine be (cs:=#[.int .i64 0,.int .i64 0,.slice none 0 0,.slice none 0 0,.slice none 0 0,.slice none 0 0,.slice none 0 0]) (t:=46) ?_;intro cP hg w9 hbox hb;have cQ:=A_ hbox;have eK:=A_ (gl hg (bz (Z3 aE.out)));have aG:=eK;replace HB:=A_ (bst (Z3 aE.out) hb);have aL:=A_ ((by rw [hg];exact nl (blk_lt (Z1 aD.out)) : aM ≠ cP));have b3:=A_ ((by rw [hg];exact Nat.ne_of_gt (blk_lt (Z1 aD.out)) : cP ≠ aM));replace aD:=A_ (bb (Z1 aD.out) hb);clear hb hbox hg;have iB:=b3.out;have iC:=aL.out;obtain ⟨eS,eT,eU,eV,eW,eX,eY,eZ,e0,e1,e2,e3,e4,e5⟩:=C7 cQ.out) | ((with_reducible refine gate_callee (f:=26) rfl ?_);refine gL 18 Try.func26 #[.slice A0 l0.length c0,.agg #[.int .i64 ((rd_T46 aB aA).f0),.int .i64 ((rd_T46 aB aA).f1),.slice cF ((rd_T46 aB aA).f2).length cG,.slice cH ((rd_T46 aB aA).f3).length cI,.slice cJ ((rd_T46 aB aA).f4).length cK,.slice cL ((rd_T46 aB aA).f5).length cM,.slice cN ((rd_T46 aB aA).f6).length cO]] ?_;(with_reducible refine (ih k1 (by have:=eR.out;omega) _ _ l0 ((rd_T46 aB aA).f0) ((rd_T46 aB aA).f1) _ _ ((rd_T46 aB aA).f2) _ _ ((rd_T46 aB aA).f3) _ _ ((rd_T46 aB aA).f4) _ _ ((rd_T46 aB aA).f5) _ _ ((rd_T46 aB aA).f6) eI _ ?s1 hD.out ?s3 cT.out ?s5 cV.out ?s7 cX.out ?s9 cZ.out ?s11 dB.out A8.out).mono ?_);(case s1 => exact Kd.C_below gR.out (Z8 aE.out aG.out));(case s3 => exact Kd.C_below cS.out (Z8 aE.out aG.out));(case s5 => exact Kd.C_below cU.out (Z8 aE.out aG.out));(case s7 => exact Kd.C_below cW.out (Z8 aE.out aG.out));(case s9 => exact Kd.C_below cY.out (Z8 aE.out aG.out));(case s11 => exact Kd.C_below dA.out (Z8 aE.out aG.out));rintro e iK ⟨rfl,hb⟩;refine ⟨_,rfl,?_⟩;replace aD:=A_ (bb (g:=aM) (o:=.cells #[.int .i64 aF,.int .i64 aC,.slice bU aH.length bV,.slice bW aI.length bX,.slice bY aJ.length bZ,.slice b0 aK.length b1,.slice (some eJ) aB.length b2] 46 (0,0)) (Z14 aL.out aD.out) hb);replace cQ:=A_ (bb (g:=cP) (o:=.cells #[.int .i64 ((rd_T46 aB aA).f0),.int .i64 ((rd_T46 aB aA).f1),.slice cF ((rd_T46 aB aA).f2).length cG,.slice cH ((rd_T46 aB aA).f3).length cI,.slice cJ ((rd_T46 aB aA).f4).length cK,.slice cL ((rd_T46 aB aA).f5).length cM,.slice cN ((rd_T46 aB aA).f6).length cO] 46 (0,0)) (bp0 cQ.out) hb);replace HB:=A_ (bst (Z8 aE.out aG.out) hb);(try clear hb)))
      go_roundg k1
      case measure => have:=eR.out;omega
      case rel => exact ⟨(wrap64 (cR + eI)),(wrap64 (aA + 1)),Z22,Z22,H',⟨by have:=eR.out;omega⟩,⟨Z1 aD.out⟩,⟨Z8 aE.out aG.out⟩⟩
     ·rw [if_neg c7] at H
      exact absurd H (by simp)
    ·rw [if_neg c6] at H
     exact absurd H (by simp)
   ·rw [if_neg c5] at H
    have gS:=df c5;clear c5
    by_cases d2 : aF = 3
    ·rw [if_pos d2] at H
     have eL:=e_t d2;have eM:=n_f d2;clear d2;obtain rfl:=Option.some.inj H;obtain ⟨e6,e7,e8,e9,fA,fB,fC,fD,fE,fF,fG,fH,fI,fJ⟩:=C7 aD.out
     go_wp2
     go_ret
     exact ⟨Z12,Z3 aE.out⟩
    ·rw [if_neg d2] at H
     have eL:=e_f d2;have eM:=n_t d2
     by_cases d3 : aF = 4
     ·rw [if_pos d3] at H
      have eN:=e_t d3;have eO:=n_f d3;clear d3
      by_cases fK : 0 ≤ aC
      ·rw [if_pos fK] at H
       have iD:=dt fK;clear fK
       by_cases fL : aC < (l0.length : Int)
       ·rw [if_pos fL] at H
        have iE:=dt fL;clear fL;replace H:=bS H;obtain ⟨gU,eP,H⟩:=H
        try dsimp only at H
        have iJ:=A_ eP;clear eP;obtain rfl:=Option.some.inj H;obtain ⟨fM,fN,fO,fP,fQ,fR,fS,fT,fU,fV,fW,fX,fY,fZ⟩:=C7 aD.out;have d4 : 0 ≤ (aC : Int):=odt;have d5 : aC < (l0.length : Int):=odt;obtain ⟨eQ,gV,gW,gX,gY,d6,d7,d8,d9,eA,eB,eC,eD,eE,eF,gZ,a5,a6,a7,a8,a9,bA,bB,bC,bD,bE,bF,bG,bH,bI,bJ,bK,bL,bM,bN,bO,bP,bQ,bR,bT⟩:=at_T48 gR.out aC d4 d5;cases gZ;replace a5:=ZC HB.out a5;replace a6:=ZC HB.out a6;replace a7:=ZC HB.out a7;replace a8:=ZC HB.out a8;replace a9:=ZC HB.out a9;replace bA:=ZC HB.out bA;replace bB:=ZC HB.out bB;replace bC:=ZC HB.out bC;replace bD:=ZC HB.out bD;replace bE:=ZC HB.out bE;have f7:=A_ bG;have f8:=A_ bF;clear bG bF;have f9:=A_ bI;have gA:=A_ bH;clear bI bH;have dC:=A_ bK;have dD:=A_ bJ;clear bK bJ;have dE:=A_ bM;have dF:=A_ bL;clear bM bL;have dG:=A_ bO;have dH:=A_ bN;clear bO bN;have dI:=A_ bQ
        have dJ:=A_ bP;clear bQ bP;have dK:=A_ bT;have dL:=A_ bR;clear bT bR;replace d4:=eq_true d4;replace d5:=eq_true d5
        go_wp2_with (first | ((with_reducible refine gate_callee (f:=26) rfl ?_);refine gL 37 Try.func26 #[.slice (some eQ) l0.length c0,.agg #[.int .i64 ((rd_T48 l0 aC).f3.f0),.int .i64 ((rd_T48 l0 aC).f3.f1),.slice d6 ((rd_T48 l0 aC).f3.f2).length d7,.slice d8 ((rd_T48 l0 aC).f3.f3).length d9,.slice eA ((rd_T48 l0 aC).f3.f4).length eB,.slice eC ((rd_T48 l0 aC).f3.f5).length eD,.slice eE ((rd_T48 l0 aC).f3.f6).length eF]] ?_;(with_reducible refine (ih k1 (by have:=eR.out;omega) _ _ l0 ((rd_T48 l0 aC).f3.f0) ((rd_T48 l0 aC).f3.f1) _ _ ((rd_T48 l0 aC).f3.f2) _ _ ((rd_T48 l0 aC).f3.f3) _ _ ((rd_T48 l0 aC).f3.f4) _ _ ((rd_T48 l0 aC).f3.f5) _ _ ((rd_T48 l0 aC).f3.f6) gU _ ?s1 hD.out ?s3 dD.out ?s5 dF.out ?s7 dH.out ?s9 dJ.out ?s11 dL.out iJ.out).mono ?_);(case s1 => exact Z9 gR.out);(case s3 => exact Z9 dC.out);(case s5 => exact Z9 dE.out);(case s7 => exact Z9 dG.out);(case s9 => exact Z9 dI.out);(case s11 => exact Z9 dK.out);rintro e iL ⟨rfl,hb⟩;refine ⟨_,rfl,?_⟩;replace aD:=A_ (bb (Z1 aD.out) hb);replace HB:=A_ (bst (Z3 aE.out) hb);(try clear hb)))
        go_ret
        exact ⟨Z12,Z3 aE.out⟩
       ·rw [if_neg fL] at H
        exact absurd H (by simp)
      ·rw [if_neg fK] at H
       exact absurd H (by simp)
     ·rw [if_neg d3] at H
      have eN:=e_f d3;have eO:=n_t d3;obtain rfl:=Option.some.inj H;obtain ⟨gB,gC,gD,gE,gF,gG,gH,gI,gJ,gK,gM,gN,gO,gP⟩:=C7 aD.out
      go_wp2
      go_ret
      exact ⟨Z12,Z3 aE.out⟩
mutual
def impl_ProgOk.j0 : Nat → List (S48) → Bool → Option (Bool)
 | 0,_,_ => none
 | k + 1,x0,aH => if aH = true then (some false) else (impl_ProgOk.l0 k x0 (x0.length : Int) 0)
def impl_ProgOk.l0 : Nat → List (S48) → Int → Int → Option (Bool)
 | 0,_,_,_ => none
 | k + 1,x0,aF,aB => if aB < aF then ((impl_compOk.f k x0 aB).bind fun aC => (if aC = true then (impl_ProgOk.l0 k x0 aF (wrap64 (aB + 1))) else (some false))) else (impl_ProgOk.l1 k x0 (x0.length : Int) 0)
def impl_ProgOk.l1 : Nat → List (S48) → Int → Int → Option (Bool)
 | 0,_,_,_ => none
 | k + 1,x0,aG,aA => if aA < aG then (if 0 ≤ aA then (if aA < (x0.length : Int) then ((impl_tmplOk.f k x0 aA ((rd_T48 x0 aA).f3.f0) ((rd_T48 x0 aA).f3.f1) ((rd_T48 x0 aA).f3.f2) ((rd_T48 x0 aA).f3.f3) ((rd_T48 x0 aA).f3.f4) ((rd_T48 x0 aA).f3.f5) ((rd_T48 x0 aA).f3.f6) 1 0).bind fun aD => (if aD = true then (impl_ProgOk.l1 k x0 aG (wrap64 (aA + 1))) else (some false))) else (none)) else (none)) else (if 0 < (x0.length : Int) then ((impl_tmplSize.f k x0 ((rd_T48 x0 0).f3.f0) ((rd_T48 x0 0).f3.f1) ((rd_T48 x0 0).f3.f2) ((rd_T48 x0 0).f3.f3) ((rd_T48 x0 0).f3.f4) ((rd_T48 x0 0).f3.f5) ((rd_T48 x0 0).f3.f6)).bind fun aE => (some (decide (aE < 200)))) else (none))
end
def impl_ProgOk.f (k : Nat) (l0 : List (S48)) : Option (Bool):=(impl_within.f (l0.length : Int) 1 4).bind fun aA => (if aA = true then (if 0 < (l0.length : Int) then (impl_ProgOk.j0 k l0 (((rd_T48 l0 0).f0) != 0)) else (none)) else (impl_ProgOk.j0 k l0 true))
theorem impl_ProgOk.calls (k : Nat) (A0 : Option Addr) (c0 : Nat) (l0 : List (S48)) (r : Bool) (w : World) (fU : Kd.C k48 w A0 l0.length l0) (hc0 : l0.length ≤ c0) (h : impl_ProgOk.f k l0 = some r) :
  Calls Try.prog 13 #[.slice A0 l0.length c0] w fun e w' => e = .returned (.bool r) ∧ Below w.heap.size w w':=by
 have gD:=Try.underlying46;have dC:=A_ fU;have eB:=A_ hc0;clear fU hc0;have HB:=A_ (Below.refl w.heap.size w);have H:=h;unfold impl_ProgOk.f at H;clear h;have e5:=A_ H;clear H
 go_enter Try.func13,Try.ntmps13
 go_upto_region 1 with (fail)
 go_cut [15] (fun gE wc => ∃ (kq : Nat) (b8 : Bool),gE = .bool b8 ∧ Aside0 (impl_ProgOk.j0 kq l0 b8 = some r) ∧ Aside0 (kq ≤ k) ∧ Aside0 (Below w.heap.size w wc))
 case first =>
  have H:=e5.out;clear e5;replace H:=bS H;obtain ⟨e6,fV,H⟩:=H
  try dsimp only at H
  have A3:=A_ fV;clear fV
  by_cases c4 : e6 = true
  ·subst c4
   rw [if_pos rfl] at H
   by_cases c5 : 0 < (l0.length : Int)
   ·rw [if_pos c5] at H
    have eC:=dt c5;have gF : decide (0 < l0.length) = true:=dt (by omega);clear c5;(first | rw [eC] | (simp only [i64_w,i32_w];rw [eC]) | skip);have H':=A_ H;clear H
    go_wp2_with (first | ((with_reducible refine gate_callee (f:=14) rfl ?_);refine gL 7 Try.func14 #[.int .i64 (l0.length : Int),.int .i64 1,.int .i64 4] ?_;(with_reducible refine (impl_within.calls (l0.length : Int) 1 4 true _ A3.out).mono ?_);rintro e w' ⟨rfl,⟨nd,rfl⟩⟩;refine ⟨_,rfl,?_⟩;have dR : 0 ≤ (0 : Int):=(by omega);have dS : 0 < (l0.length : Int):=odt;obtain ⟨fW,e7,e8,e9,fA,fB,fC,fD,fE,fF,fG,fH,fI,fJ,fK,fL,aB,aC,aD,aE,aF,aG,aH,aI,aJ,aK,b9,cA,cB,cC,cD,cE,cF,cG,cH,cI,cJ,cK,cL,cM⟩:=at_T48 dC.out 0 dR dS;cases fL;have fX : (0 < l0.length) = True:=eq_true (by omega);(try rw [show ((0 : Int)).toNat = 0 from rfl] at aB);(try rw [show 0 * 10 = 0 from rfl] at aB);(try rw [Addr.add_zero'] at aB);(try rw [show ((0 : Int)).toNat = 0 from rfl] at aC);(try rw [show 0 * 10 = 0 from rfl] at aC);(try rw [Addr.add_zero'] at aC);(try rw [show ((0 : Int)).toNat = 0 from rfl] at aD);(try rw [show 0 * 10 = 0 from rfl] at aD);(try rw [Addr.add_zero'] at aD);(try rw [show ((0 : Int)).toNat = 0 from rfl] at aE);(try rw [show 0 * 10 = 0 from rfl] at aE);(try rw [Addr.add_zero'] at aE);(try rw [show ((0 : Int)).toNat = 0 from rfl] at aF);(try rw [show 0 * 10 = 0 from rfl] at aF);(try rw [Addr.add_zero'] at aF);(try rw [show ((0 : Int)).toNat = 0 from rfl] at aG);(try rw [show 0 * 10 = 0 from rfl] at aG);(try rw [Addr.add_zero'] at aG);(try rw [show ((0 : Int)).toNat = 0 from rfl] at aH);(try rw [show 0 * 10 = 0 from rfl] at aH);(try rw [Addr.add_zero'] at aH);(try rw [show ((0 : Int)).toNat = 0 from rfl] at aI);(try rw [show 0 * 10 = 0 from rfl] at aI);(try rw [Addr.add_zero'] at aI);(try rw [show ((0 : Int)).toNat = 0 from rfl] at aJ);(try rw [show 0 * 10 = 0 from rfl] at aJ);(try rw [Addr.add_zero'] at aJ);(try rw [show ((0 : Int)).toNat = 0 from rfl] at aK);(try rw [show 0 * 10 = 0 from rfl] at aK);(try rw [Addr.add_zero'] at aK);replace aB:=ZC HB.out aB;replace aC:=ZC HB.out aC;replace aD:=ZC HB.out aD;replace aE:=ZC HB.out aE;replace aF:=ZC HB.out aF;replace aG:=ZC HB.out aG;replace aH:=ZC HB.out aH;replace aI:=ZC HB.out aI;replace aJ:=ZC HB.out aJ;replace aK:=ZC HB.out aK;have eI:=A_ cA;have eJ:=A_ b9;clear cA b9;have eK:=A_ cC;have eL:=A_ cB;clear cC cB;have eM:=A_ cE;have eN:=A_ cD;clear cE cD;have eO:=A_ cG;have eP:=A_ cF;clear cG cF;have eQ:=A_ cI;have eR:=A_ cH;clear cI cH;have eS:=A_ cK;have eT:=A_ cJ;clear cK cJ;have eU:=A_ cM;have eV:=A_ cL;clear cM cL;replace dR:=eq_true dR;replace dS:=eq_true dS))
    go_meet
    case rel => exact ⟨_,((((rd_T48 l0 0).f0) != 0)),Z22,H',⟨Z47⟩,⟨Z2⟩⟩
   ·rw [if_neg c5] at H
    exact absurd H (by simp)
  ·replace c4:=Bool.eq_false_iff.mpr c4
   subst c4;rw [if_neg (show ¬ (false = true) by decide)] at H;have H':=A_ H;clear H
   go_wp2_with (first | ((with_reducible refine gate_callee (f:=14) rfl ?_);refine gL 7 Try.func14 #[.int .i64 (l0.length : Int),.int .i64 1,.int .i64 4] ?_;(with_reducible refine (impl_within.calls (l0.length : Int) 1 4 false _ A3.out).mono ?_);rintro e w' ⟨rfl,⟨nd,rfl⟩⟩;refine ⟨_,rfl,?_⟩))
   go_meet
   case rel => exact ⟨_,(true),Z22,H',⟨Z47⟩,⟨Z2⟩⟩
 case rest =>
  clear e5;obtain ⟨kq,b8,rfl,HA,eW,HB⟩:=hcut
  cases kq with
  | zero => exact absurd HA.out (by simp [impl_ProgOk.j0])
  | succ fY =>
   have H:=HA.out;clear HA;simp only [impl_ProgOk.j0] at H
   by_cases c6 : b8 = true
   ·subst c6
    rw [if_pos rfl] at H;obtain rfl:=Option.some.inj H
    go_wp2
    go_ret
    exact ⟨Z12,Z2⟩
   ·replace c6:=Bool.eq_false_iff.mpr c6
    subst c6;rw [if_neg (show ¬ (false = true) by decide)] at H;have H':=A_ H;clear H
    go_wp2
    go_loopg [18] fY (fun kq gG w' => ∃ (aL : Int),gG = .int .i64 aL ∧ Aside0 (impl_ProgOk.l0 kq l0 (l0.length : Int) aL = some r) ∧ Aside0 (kq ≤ fY) ∧ Aside0 (Below w.heap.size w w'))
    case atStart => exact ⟨(0),Z22,H',⟨Nat.le_refl _⟩,⟨Z2⟩⟩
    case round =>
     clear H';obtain ⟨aL,rfl,HA,HK2,HB⟩:=hrel
     cases gk with
     | zero => exact absurd HA.out (by simp [impl_ProgOk.l0])
     | succ k2 =>
      have H:=HA.out;clear HA;simp only [impl_ProgOk.l0] at H
      by_cases c7 : aL < (l0.length : Int)
      ·rw [if_pos c7] at H
       have eD:=dt c7;clear c7;replace H:=bS H;obtain ⟨fM,fZ,H⟩:=H
       try dsimp only at H
       have A8:=A_ fZ;clear fZ
       by_cases c9 : fM = true
       ·subst c9
        rw [if_pos rfl] at H;have H':=A_ H;clear H
        go_wp2_with (first | ((with_reducible refine gate_callee (f:=24) rfl ?_);refine gL 23 Try.func24 #[.slice A0 l0.length c0,.int .i64 aL] ?_;(with_reducible refine (impl_compOk.calls k2 _ _ l0 aL true _ ?s1 eB.out A8.out).mono ?_);(case s1 => exact Z9 dC.out);rintro e gJ ⟨rfl,hb⟩;refine ⟨_,rfl,?_⟩;replace HB:=A_ (bst Z2 hb);(try clear hb)))
        go_roundg k2
        case measure => have:=eW.out;have:=HK2.out;omega
        case rel => exact ⟨(wrap64 (aL + 1)),Z22,H',⟨by have:=eW.out;have:=HK2.out;omega⟩,⟨Z2⟩⟩
       ·replace c9:=Bool.eq_false_iff.mpr c9
        subst c9;rw [if_neg (show ¬ (false = true) by decide)] at H;obtain rfl:=Option.some.inj H
        go_wp2_with (first | ((with_reducible refine gate_callee (f:=24) rfl ?_);refine gL 23 Try.func24 #[.slice A0 l0.length c0,.int .i64 aL] ?_;(with_reducible refine (impl_compOk.calls k2 _ _ l0 aL false _ ?s1 eB.out A8.out).mono ?_);(case s1 => exact Z9 dC.out);rintro e gK ⟨rfl,hb⟩;refine ⟨_,rfl,?_⟩;replace HB:=A_ (bst Z2 hb);(try clear hb)))
        go_ret
        exact ⟨Z12,Z2⟩
      ·rw [if_neg c7] at H
       have eD:=df c7;clear c7;have H':=A_ H;clear H
       go_wp2
       go_loopg [28] k2 (fun kq gH w' => ∃ (aA : Int),gH = .int .i64 aA ∧ Aside0 (impl_ProgOk.l1 kq l0 (l0.length : Int) aA = some r) ∧ Aside0 (kq ≤ k2) ∧ Aside0 (Below w.heap.size w w'))
       case atStart => exact ⟨(0),Z22,H',⟨Nat.le_refl _⟩,⟨Z2⟩⟩
       case round =>
        clear H' eD;obtain ⟨aA,rfl,HA,HK3,HB⟩:=hrel
        cases gk with
        | zero => exact absurd HA.out (by simp [impl_ProgOk.l1])
        | succ k3 =>
         have H:=HA.out;clear HA;simp only [impl_ProgOk.l1] at H
         by_cases eA : aA < (l0.length : Int)
         ·rw [if_pos eA] at H
          have eE:=dt eA;clear eA
          by_cases eX : 0 ≤ aA
          ·rw [if_pos eX] at H
           have f7:=dt eX;clear eX
           by_cases eY : aA < (l0.length : Int)
           ·rw [if_pos eY] at H
            have f8:=dt eY;clear eY;replace H:=bS H;obtain ⟨fN,eF,H⟩:=H
            try dsimp only at H
            have f9:=A_ eF;clear eF
            by_cases eZ : fN = true
            ·subst eZ
             rw [if_pos rfl] at H;have H':=A_ H;clear H;have bW : 0 ≤ (aA : Int):=odt;have bX : aA < (l0.length : Int):=odt;obtain ⟨dB,dT,dU,dV,dW,bY,bZ,b0,b1,b2,b3,b4,b5,b6,b7,dX,aM,aN,aO,aP,aQ,aR,aS,aT,aU,aV,aW,aX,aY,aZ,a0,a2,a3,a4,a5,a6,a7,a8,a9,bA⟩:=at_T48 dC.out aA bW bX;cases dX;replace aM:=ZC HB.out aM;replace aN:=ZC HB.out aN;replace aO:=ZC HB.out aO;replace aP:=ZC HB.out aP;replace aQ:=ZC HB.out aQ;replace aR:=ZC HB.out aR;replace aS:=ZC HB.out aS;replace aT:=ZC HB.out aT;replace aU:=ZC HB.out aU;replace aV:=ZC HB.out aV;have dD:=A_ aX;have dE:=A_ aW;clear aX aW;have dF:=A_ aZ;have dG:=A_ aY;clear aZ aY;have bL:=A_ a2;have bM:=A_ a0;clear a2 a0;have bN:=A_ a4;have bO:=A_ a3;clear a4 a3;have bP:=A_ a6;have bQ:=A_ a5;clear a6 a5;have bR:=A_ a8;have bT:=A_ a7;clear a8 a7;have bU:=A_ bA;have bV:=A_ a9;clear bA a9;replace bW:=eq_true bW
             replace bX:=eq_true bX
             go_wp2_with (first | ((with_reducible refine gate_callee (f:=25) rfl ?_);refine gL 38 Try.func25 #[.slice (some dB) l0.length c0,.int .i64 aA,.agg #[.int .i64 ((rd_T48 l0 aA).f3.f0),.int .i64 ((rd_T48 l0 aA).f3.f1),.slice bY ((rd_T48 l0 aA).f3.f2).length bZ,.slice b0 ((rd_T48 l0 aA).f3.f3).length b1,.slice b2 ((rd_T48 l0 aA).f3.f4).length b3,.slice b4 ((rd_T48 l0 aA).f3.f5).length b5,.slice b6 ((rd_T48 l0 aA).f3.f6).length b7],.int .i64 1,.int .i64 0] ?_;(with_reducible refine (impl_tmplOk.calls k3 _ _ l0 aA ((rd_T48 l0 aA).f3.f0) ((rd_T48 l0 aA).f3.f1) _ _ ((rd_T48 l0 aA).f3.f2) _ _ ((rd_T48 l0 aA).f3.f3) _ _ ((rd_T48 l0 aA).f3.f4) _ _ ((rd_T48 l0 aA).f3.f5) _ _ ((rd_T48 l0 aA).f3.f6) 1 0 true _ ?s1 eB.out ?s3 bM.out ?s5 bO.out ?s7 bQ.out ?s9 bT.out ?s11 bV.out f9.out).mono ?_);(case s1 => exact Z9 dC.out);(case s3 => exact Z9 bL.out);(case s5 => exact Z9 bN.out);(case s7 => exact Z9 bP.out);(case s9 => exact Z9 bR.out);(case s11 => exact Z9 bU.out);rintro e gM ⟨rfl,hb⟩;refine ⟨_,rfl,?_⟩;replace HB:=A_ (bst Z2 hb);(try clear hb)))
             go_roundg k3
             case measure => have:=eW.out;have:=HK2.out;have:=HK3.out;omega
             case rel => exact ⟨(wrap64 (aA + 1)),Z22,H',⟨by have:=eW.out;have:=HK2.out;have:=HK3.out;omega⟩,⟨Z2⟩⟩
            ·replace eZ:=Bool.eq_false_iff.mpr eZ
             subst eZ;rw [if_neg (show ¬ (false = true) by decide)] at H;obtain rfl:=Option.some.inj H;have bW : 0 ≤ (aA : Int):=odt;have bX : aA < (l0.length : Int):=odt;obtain ⟨dB,dT,dU,dV,dW,bY,bZ,b0,b1,b2,b3,b4,b5,b6,b7,dX,aM,aN,aO,aP,aQ,aR,aS,aT,aU,aV,aW,aX,aY,aZ,a0,a2,a3,a4,a5,a6,a7,a8,a9,bA⟩:=at_T48 dC.out aA bW bX;cases dX;replace aM:=ZC HB.out aM;replace aN:=ZC HB.out aN;replace aO:=ZC HB.out aO;replace aP:=ZC HB.out aP;replace aQ:=ZC HB.out aQ;replace aR:=ZC HB.out aR;replace aS:=ZC HB.out aS;replace aT:=ZC HB.out aT;replace aU:=ZC HB.out aU;replace aV:=ZC HB.out aV;have dD:=A_ aX;have dE:=A_ aW;clear aX aW;have dF:=A_ aZ;have dG:=A_ aY;clear aZ aY;have bL:=A_ a2;have bM:=A_ a0;clear a2 a0;have bN:=A_ a4;have bO:=A_ a3;clear a4 a3;have bP:=A_ a6;have bQ:=A_ a5;clear a6 a5;have bR:=A_ a8;have bT:=A_ a7;clear a8 a7;have bU:=A_ bA;have bV:=A_ a9;clear bA a9
             replace bW:=eq_true bW;replace bX:=eq_true bX
             go_wp2_with (first | ((with_reducible refine gate_callee (f:=25) rfl ?_);refine gL 38 Try.func25 #[.slice (some dB) l0.length c0,.int .i64 aA,.agg #[.int .i64 ((rd_T48 l0 aA).f3.f0),.int .i64 ((rd_T48 l0 aA).f3.f1),.slice bY ((rd_T48 l0 aA).f3.f2).length bZ,.slice b0 ((rd_T48 l0 aA).f3.f3).length b1,.slice b2 ((rd_T48 l0 aA).f3.f4).length b3,.slice b4 ((rd_T48 l0 aA).f3.f5).length b5,.slice b6 ((rd_T48 l0 aA).f3.f6).length b7],.int .i64 1,.int .i64 0] ?_;(with_reducible refine (impl_tmplOk.calls k3 _ _ l0 aA ((rd_T48 l0 aA).f3.f0) ((rd_T48 l0 aA).f3.f1) _ _ ((rd_T48 l0 aA).f3.f2) _ _ ((rd_T48 l0 aA).f3.f3) _ _ ((rd_T48 l0 aA).f3.f4) _ _ ((rd_T48 l0 aA).f3.f5) _ _ ((rd_T48 l0 aA).f3.f6) 1 0 false _ ?s1 eB.out ?s3 bM.out ?s5 bO.out ?s7 bQ.out ?s9 bT.out ?s11 bV.out f9.out).mono ?_);(case s1 => exact Z9 dC.out);(case s3 => exact Z9 bL.out);(case s5 => exact Z9 bN.out);(case s7 => exact Z9 bP.out);(case s9 => exact Z9 bR.out);(case s11 => exact Z9 bU.out);rintro e gN ⟨rfl,hb⟩;refine ⟨_,rfl,?_⟩;replace HB:=A_ (bst Z2 hb);(try clear hb)))
             go_ret
             exact ⟨Z12,Z2⟩
           ·rw [if_neg eY] at H
            exact absurd H (by simp)
          ·rw [if_neg eX] at H
           exact absurd H (by simp)
         ·rw [if_neg eA] at H
          have eE:=df eA;clear eA
          by_cases e0 : 0 < (l0.length : Int)
          ·rw [if_pos e0] at H
           have gA:=dt e0;have gB : decide (0 < l0.length) = true:=dt (by omega);clear e0;replace H:=bS H;obtain ⟨fO,eG,H⟩:=H
           try dsimp only at H
           have gI:=A_ eG;clear eG;obtain rfl:=Option.some.inj H;have dY : 0 ≤ (0 : Int):=(by omega);have dZ : 0 < (l0.length : Int):=odt;obtain ⟨eH,fP,fQ,fR,fS,d0,d1,d2,d3,d4,d5,d6,d7,d8,d9,fT,bB,bC,bD,bE,bF,bG,bH,bI,bJ,bK,cN,cO,cP,cQ,cR,cS,cT,cU,cV,cW,cX,cY,cZ,dA⟩:=at_T48 dC.out 0 dY dZ;cases fT;have gC : (0 < l0.length) = True:=eq_true (by omega);(try rw [show ((0 : Int)).toNat = 0 from rfl] at bB);(try rw [show 0 * 10 = 0 from rfl] at bB);(try rw [Addr.add_zero'] at bB);(try rw [show ((0 : Int)).toNat = 0 from rfl] at bC);(try rw [show 0 * 10 = 0 from rfl] at bC);(try rw [Addr.add_zero'] at bC);(try rw [show ((0 : Int)).toNat = 0 from rfl] at bD);(try rw [show 0 * 10 = 0 from rfl] at bD);(try rw [Addr.add_zero'] at bD);(try rw [show ((0 : Int)).toNat = 0 from rfl] at bE);(try rw [show 0 * 10 = 0 from rfl] at bE);(try rw [Addr.add_zero'] at bE);(try rw [show ((0 : Int)).toNat = 0 from rfl] at bF);(try rw [show 0 * 10 = 0 from rfl] at bF);(try rw [Addr.add_zero'] at bF);(try rw [show ((0 : Int)).toNat = 0 from rfl] at bG);(try rw [show 0 * 10 = 0 from rfl] at bG);(try rw [Addr.add_zero'] at bG);(try rw [show ((0 : Int)).toNat = 0 from rfl] at bH)
           (try rw [show 0 * 10 = 0 from rfl] at bH);(try rw [Addr.add_zero'] at bH);(try rw [show ((0 : Int)).toNat = 0 from rfl] at bI);(try rw [show 0 * 10 = 0 from rfl] at bI);(try rw [Addr.add_zero'] at bI);(try rw [show ((0 : Int)).toNat = 0 from rfl] at bJ);(try rw [show 0 * 10 = 0 from rfl] at bJ);(try rw [Addr.add_zero'] at bJ);(try rw [show ((0 : Int)).toNat = 0 from rfl] at bK);(try rw [show 0 * 10 = 0 from rfl] at bK);(try rw [Addr.add_zero'] at bK);replace bB:=ZC HB.out bB;replace bC:=ZC HB.out bC;replace bD:=ZC HB.out bD;replace bE:=ZC HB.out bE;replace bF:=ZC HB.out bF;replace bG:=ZC HB.out bG;replace bH:=ZC HB.out bH;replace bI:=ZC HB.out bI;replace bJ:=ZC HB.out bJ;replace bK:=ZC HB.out bK;have e1:=A_ cO;have e2:=A_ cN;clear cO cN;have e3:=A_ cQ;have e4:=A_ cP;clear cQ cP;have dH:=A_ cS;have dI:=A_ cR;clear cS cR;have dJ:=A_ cU;have dK:=A_ cT;clear cU cT;have dL:=A_ cW;have dM:=A_ cV;clear cW cV;have dN:=A_ cY;have dO:=A_ cX;clear cY cX;have dP:=A_ dA;have dQ:=A_ cZ;clear dA cZ;replace dY:=eq_true dY;replace dZ:=eq_true dZ
           go_wp2_with (first | ((with_reducible refine gate_callee (f:=26) rfl ?_);refine gL 46 Try.func26 #[.slice (some eH) l0.length c0,.agg #[.int .i64 ((rd_T48 l0 0).f3.f0),.int .i64 ((rd_T48 l0 0).f3.f1),.slice d0 ((rd_T48 l0 0).f3.f2).length d1,.slice d2 ((rd_T48 l0 0).f3.f3).length d3,.slice d4 ((rd_T48 l0 0).f3.f4).length d5,.slice d6 ((rd_T48 l0 0).f3.f5).length d7,.slice d8 ((rd_T48 l0 0).f3.f6).length d9]] ?_;(with_reducible refine (impl_tmplSize.calls k3 _ _ l0 ((rd_T48 l0 0).f3.f0) ((rd_T48 l0 0).f3.f1) _ _ ((rd_T48 l0 0).f3.f2) _ _ ((rd_T48 l0 0).f3.f3) _ _ ((rd_T48 l0 0).f3.f4) _ _ ((rd_T48 l0 0).f3.f5) _ _ ((rd_T48 l0 0).f3.f6) fO _ ?s1 eB.out ?s3 dI.out ?s5 dK.out ?s7 dM.out ?s9 dO.out ?s11 dQ.out gI.out).mono ?_);(case s1 => exact Z9 dC.out);(case s3 => exact Z9 dH.out);(case s5 => exact Z9 dJ.out);(case s7 => exact Z9 dL.out);(case s9 => exact Z9 dN.out);(case s11 => exact Z9 dP.out);rintro e gO ⟨rfl,hb⟩;refine ⟨_,rfl,?_⟩;replace HB:=A_ (bst Z2 hb);(try clear hb)))
           go_ret
           exact ⟨Z12,Z2⟩
          ·rw [if_neg e0] at H
           exact absurd H (by simp)
end Go.Proofs.Ytmgdjmeoljepgaa.PFnProgBelow
