/- Walks (lines of the print; no condition). -/
import Derived.Test.YtmgdjmeoljepgaaZFnProgBelowQFnProgBelowx9
import Derived.Test.YtmgdjmeoljepgaaZFnProgBelowQFnProgBelowx10
namespace Go.Proofs.Ytmgdjmeoljepgaa.PFnProgBelow
open Go.RowKit Go.Proofs.YtmgdjmeoljepgaaW.PrintWords Go.Proofs.YtmgdjmeoljepgaaW.PrintLast Go.Proofs.YtmgdjmeoljepgaaW.PrintMore
attribute [local go_sem] max2_int min2_int max_two min_two max_three min_three max_four min_four
set_option linter.unusedVariables false
set_option linter.unusedSimpArgs false
set_option maxHeartbeats 8000000
set_option maxRecDepth 100000
mutual
def spec_validProg.j0 : Nat → List (S48) → Bool → Option (Bool)
 | 0,_,_ => none
 | k + 1,x0,aF => if aF = true then (some false) else (spec_validProg.l0 k x0 0)
def spec_validProg.l0 : Nat → List (S48) → Int → Option (Bool)
 | 0,_,_ => none
 | k + 1,x0,x3 => if x3 < (x0.length : Int) then (if 0 ≤ x3 then ((spec_inRange.f ((rd_T48 x0 x3).f0) 0 3).bind fun aB => (if aB = true then (if (((rd_T48 x0 x3).f1).length : Int) > 3 then (some false) else ((spec_validValues.f k ((rd_T48 x0 x3).f1)).bind fun aC => (if aC = true then (spec_validProg.l0 k x0 (wrap64 (x3 + 1))) else (some false)))) else (some false))) else (none)) else (spec_validProg.l1 k x0 0)
def spec_validProg.l1 : Nat → List (S48) → Int → Option (Bool)
 | 0,_,_ => none
 | k + 1,x0,x5 => if x5 < (x0.length : Int) then (if 0 ≤ x5 then ((spec_validActs.f k ((rd_T48 x0 x5).f0) ((rd_T48 x0 x5).f1) ((rd_T48 x0 x5).f2) ((rd_T48 x0 x5).f3.f0) ((rd_T48 x0 x5).f3.f1) ((rd_T48 x0 x5).f3.f2) ((rd_T48 x0 x5).f3.f3) ((rd_T48 x0 x5).f3.f4) ((rd_T48 x0 x5).f3.f5) ((rd_T48 x0 x5).f3.f6)).bind fun aD => (if aD = true then ((spec_validTmpl.f k x0 x5 ((rd_T48 x0 x5).f3.f0) ((rd_T48 x0 x5).f3.f1) ((rd_T48 x0 x5).f3.f2) ((rd_T48 x0 x5).f3.f3) ((rd_T48 x0 x5).f3.f4) ((rd_T48 x0 x5).f3.f5) ((rd_T48 x0 x5).f3.f6) 1 0).bind fun aE => (if aE = true then (spec_validProg.l1 k x0 (wrap64 (x5 + 1))) else (some false))) else (some false))) else (none)) else ((spec_sizes.f k x0).bind fun aA => (if 0 < (aA.length : Int) then (some (decide ((rd aA 0) < 200))) else (none)))
end
def spec_validProg.f (k : Nat) (l0 : List (S48)) : Option (Bool):=(spec_inRange.f (l0.length : Int) 1 4).bind fun aA => (if aA = true then (if 0 < (l0.length : Int) then (spec_validProg.j0 k l0 (((rd_T48 l0 0).f0) != 0)) else (none)) else (spec_validProg.j0 k l0 true))
theorem spec_validProg.calls (k : Nat) (A0 : Option Addr) (c0 : Nat) (l0 : List (S48)) (r : Bool) (w : World) (lH : Kd.C k48 w A0 l0.length l0) (hc0 : l0.length ≤ c0) (h : spec_validProg.f k l0 = some r) :
  Calls Try.prog 16 #[.slice A0 l0.length c0] w fun e w' => e = .returned (.bool r) ∧ Below w.heap.size w w':=by
 have lV:=Try.underlying48;have lW:=Try.underlying46;have fK:=A_ lH;have kQ:=A_ hc0;clear lH hc0;have HB:=A_ (Below.refl w.heap.size w);have H:=h;unfold spec_validProg.f at H;clear h;have kR:=A_ H;clear H
 go_enter Try.func16,Try.ntmps16
 go_upto_region 1 with (fail)
 go_cut [16] (fun lX wc => ∃ (kq : Nat) (e3 : Bool),lX = .bool e3 ∧ Aside0 (spec_validProg.j0 kq l0 e3 = some r) ∧ Aside0 (kq ≤ k) ∧ Aside0 (Below w.heap.size w wc))
 case first =>
  have H:=kR.out;clear kR;replace H:=bS H;obtain ⟨kS,lI,H⟩:=H
  try dsimp only at H
  have A3:=A_ lI;clear lI
  by_cases c4 : kS = true
  ·subst c4
   rw [if_pos rfl] at H
   by_cases c5 : 0 < (l0.length : Int)
   ·rw [if_pos c5] at H
    have gN:=dt c5;have lY : decide (0 < l0.length) = true:=dt (by omega);clear c5;(first | rw [gN] | (simp only [i64_w,i32_w];rw [gN]) | skip);have H':=A_ H;clear H
    go_wp2_with (first | ((with_reducible refine gate_callee (f:=17) rfl ?_);refine gL 8 Try.func17 #[.int .i64 (l0.length : Int),.int .i64 1,.int .i64 4] ?_;(with_reducible refine (spec_inRange.calls (l0.length : Int) 1 4 true _ A3.out).mono ?_);rintro e w' ⟨rfl,⟨nd,rfl⟩⟩;refine ⟨_,rfl,?_⟩;have fU : 0 ≤ (0 : Int):=(by omega);have fV : 0 < (l0.length : Int):=odt;obtain ⟨lJ,kT,kU,kV,kW,kX,kY,kZ,k0,k1,k4,k5,k6,k7,k8,k9,bU,bV,bW,bX,bY,bZ,b0,b1,b2,b3,e4,e5,e6,e7,e8,e9,fA,fB,fC,fD,fE,fF,fG,fH⟩:=at_T48 fK.out 0 fU fV;cases k9;have lK : (0 < l0.length) = True:=eq_true (by omega);(try rw [show ((0 : Int)).toNat = 0 from rfl] at bU);(try rw [show 0 * 10 = 0 from rfl] at bU);(try rw [Addr.add_zero'] at bU);(try rw [show ((0 : Int)).toNat = 0 from rfl] at bV);(try rw [show 0 * 10 = 0 from rfl] at bV);(try rw [Addr.add_zero'] at bV);(try rw [show ((0 : Int)).toNat = 0 from rfl] at bW);(try rw [show 0 * 10 = 0 from rfl] at bW);(try rw [Addr.add_zero'] at bW);(try rw [show ((0 : Int)).toNat = 0 from rfl] at bX);(try rw [show 0 * 10 = 0 from rfl] at bX);(try rw [Addr.add_zero'] at bX);(try rw [show ((0 : Int)).toNat = 0 from rfl] at bY);(try rw [show 0 * 10 = 0 from rfl] at bY);(try rw [Addr.add_zero'] at bY);(try rw [show ((0 : Int)).toNat = 0 from rfl] at bZ);(try rw [show 0 * 10 = 0 from rfl] at bZ);(try rw [Addr.add_zero'] at bZ);(try rw [show ((0 : Int)).toNat = 0 from rfl] at b0);(try rw [show 0 * 10 = 0 from rfl] at b0);(try rw [Addr.add_zero'] at b0);(try rw [show ((0 : Int)).toNat = 0 from rfl] at b1);(try rw [show 0 * 10 = 0 from rfl] at b1);(try rw [Addr.add_zero'] at b1);(try rw [show ((0 : Int)).toNat = 0 from rfl] at b2);(try rw [show 0 * 10 = 0 from rfl] at b2);(try rw [Addr.add_zero'] at b2);(try rw [show ((0 : Int)).toNat = 0 from rfl] at b3);(try rw [show 0 * 10 = 0 from rfl] at b3);(try rw [Addr.add_zero'] at b3);replace bU:=ZC HB.out bU;replace bV:=ZC HB.out bV;replace bW:=ZC HB.out bW;replace bX:=ZC HB.out bX;replace bY:=ZC HB.out bY;replace bZ:=ZC HB.out bZ;replace b0:=ZC HB.out b0;replace b1:=ZC HB.out b1;replace b2:=ZC HB.out b2;replace b3:=ZC HB.out b3;have gW:=A_ e5;have gX:=A_ e4;clear e5 e4;have gY:=A_ e7;have gZ:=A_ e6;clear e7 e6;have hD:=A_ e9;have hI:=A_ e8;clear e9 e8;have hJ:=A_ fB;have hL:=A_ fA;clear fB fA;have hO:=A_ fD;have hU:=A_ fC;clear fD fC;have hV:=A_ fF;have hX:=A_ fE;clear fF fE;have hY:=A_ fH;have hZ:=A_ fG;clear fH fG;replace fU:=eq_true fU;replace fV:=eq_true fV))
    go_meet
    case rel => exact ⟨_,((((rd_T48 l0 0).f0) != 0)),Z22,H',⟨Z47⟩,⟨Z2⟩⟩
   ·rw [if_neg c5] at H
    exact absurd H (by simp)
  ·replace c4:=Bool.eq_false_iff.mpr c4
   subst c4;rw [if_neg (show ¬ (false = true) by decide)] at H;have H':=A_ H;clear H
   go_wp2_with (first | ((with_reducible refine gate_callee (f:=17) rfl ?_);refine gL 8 Try.func17 #[.int .i64 (l0.length : Int),.int .i64 1,.int .i64 4] ?_;(with_reducible refine (spec_inRange.calls (l0.length : Int) 1 4 false _ A3.out).mono ?_);rintro e w' ⟨rfl,⟨nd,rfl⟩⟩;refine ⟨_,rfl,?_⟩))
   go_meet
   case rel => exact ⟨_,(true),Z22,H',⟨Z47⟩,⟨Z2⟩⟩
 case rest =>
  clear kR;obtain ⟨kq,e3,rfl,HA,iA,HB⟩:=hcut
  cases kq with
  | zero => exact absurd HA.out (by simp [spec_validProg.j0])
  | succ lL =>
   have H:=HA.out;clear HA;simp only [spec_validProg.j0] at H
   by_cases c6 : e3 = true
   ·subst c6
    rw [if_pos rfl] at H;obtain rfl:=Option.some.inj H
    go_wp2
    go_ret
    exact ⟨Z12,Z2⟩
   ·replace c6:=Bool.eq_false_iff.mpr c6
    subst c6;rw [if_neg (show ¬ (false = true) by decide)] at H;have H':=A_ H;clear H
    go_wp2
    go_loopg [3] lL (fun kq v3 w' => ∃ (aB : Int),v3 = .int .i64 aB ∧ Aside0 (spec_validProg.l0 kq l0 aB = some r) ∧ Aside0 (kq ≤ lL) ∧ Aside0 (Below w.heap.size w w'))
    case atStart => exact ⟨(0),Z22,H',⟨Nat.le_refl _⟩,⟨Z2⟩⟩
    case round =>
     clear H';obtain ⟨aB,rfl,HA,HK2,HB⟩:=hrel
     cases gk with
     | zero => exact absurd HA.out (by simp [spec_validProg.l0])
     | succ k2 =>
      have H:=HA.out;clear HA;simp only [spec_validProg.l0] at H
      by_cases c7 : aB < (l0.length : Int)
      ·rw [if_pos c7] at H
       have gO:=dt c7;clear c7
       by_cases c8 : 0 ≤ aB
       ·rw [if_pos c8] at H
        have lZ:=dt c8;clear c8;replace H:=bS H;obtain ⟨lA,lM,H⟩:=H
        try dsimp only at H
        have A9:=A_ lM;clear lM
        by_cases c10 : lA = true
        ·subst c10
         rw [if_pos rfl] at H
         by_cases gK : (((rd_T48 l0 aB).f1).length : Int) > 3
         ·rw [if_pos gK] at H
          have gP : decide (3 < (((rd_T48 l0 aB).f1).length : Int)) = true:=dt gK;have gQ : decide (3 < ((rd_T48 l0 aB).f1).length) = true:=dt (by omega);clear gK;obtain rfl:=Option.some.inj H;have bR : 0 ≤ (aB : Int):=odt;have bT : aB < (l0.length : Int):=odt;obtain ⟨fL,dI,dJ,dK,dL,dM,dN,dO,dP,dQ,dR,dS,dT,dU,dV,e0,aC,aD,aE,aF,aG,aH,aI,aJ,aK,aL,aM,aN,aO,aP,aQ,aR,aS,aT,aU,aV,aW,aX,aY,aZ⟩:=at_T48 fK.out aB bR bT;cases e0;replace aC:=ZC HB.out aC;replace aD:=ZC HB.out aD;replace aE:=ZC HB.out aE;replace aF:=ZC HB.out aF;replace aG:=ZC HB.out aG;replace aH:=ZC HB.out aH;replace aI:=ZC HB.out aI;replace aJ:=ZC HB.out aJ;replace aK:=ZC HB.out aK;replace aL:=ZC HB.out aL;have b4:=A_ aN;have b5:=A_ aM;clear aN aM;have eD:=A_ aP;have eE:=A_ aO;clear aP aO;have eF:=A_ aR;have eG:=A_ aQ;clear aR aQ;have eH:=A_ aT;have eI:=A_ aS;clear aT aS;have eJ:=A_ aV;have eK:=A_ aU;clear aV aU;have eL:=A_ aX;have eM:=A_ aW;clear aX aW;have eN:=A_ aZ;have eO:=A_ aY;clear aZ aY;replace bR:=eq_true bR;replace bT:=eq_true bT
          go_wp2_with (first | ((with_reducible refine gate_dst (N:=4) rfl ?_);(try (refine gate_guard (by rfl) ?_;dsimp only));refine be (cs:=#[.int .i64 0,.slice none 0 0,.slice none 0 0,.int .i64 0,.int .i64 0,.slice none 0 0,.slice none 0 0,.slice none 0 0,.slice none 0 0,.slice none 0 0]) (t:=48) ?_;intro eZ hg mE hbox hb;have bP:=A_ hbox;have dW:=A_ (gl hg (bz Z2));have bQ:=dW;replace HB:=A_ (bst Z2 hb);clear hb hbox hg;obtain ⟨iB,iC,iD,iE,iF,iG,iH,iI,iJ,iK,iL,iM,iN,iO,iP,iQ,iR,iS,iT,iU⟩:=C10 bP.out) | ((with_reducible refine gate_callee (f:=17) rfl ?_);refine gL 29 Try.func17 #[.int .i64 ((rd_T48 l0 aB).f0),.int .i64 0,.int .i64 3] ?_;(with_reducible refine (spec_inRange.calls ((rd_T48 l0 aB).f0) 0 3 true _ A9.out).mono ?_);rintro e w' ⟨rfl,⟨nd,rfl⟩⟩;refine ⟨_,rfl,?_⟩))
          go_ret
          exact ⟨Z12,Z3 bQ.out⟩
         ·rw [if_neg gK] at H
          have gP : decide (3 < (((rd_T48 l0 aB).f1).length : Int)) = false:=df gK;have gQ : decide (3 < ((rd_T48 l0 aB).f1).length) = false:=df (by omega);clear gK;replace H:=bS H;obtain ⟨lB,gR,H⟩:=H
          try dsimp only at H
          have lN:=A_ gR;clear gR
          by_cases iV : lB = true
          ·subst iV
           rw [if_pos rfl] at H;have H':=A_ H;clear H;have bR : 0 ≤ (aB : Int):=odt;have bT : aB < (l0.length : Int):=odt;obtain ⟨fL,dI,dJ,dK,dL,dM,dN,dO,dP,dQ,dR,dS,dT,dU,dV,e0,aC,aD,aE,aF,aG,aH,aI,aJ,aK,aL,aM,aN,aO,aP,aQ,aR,aS,aT,aU,aV,aW,aX,aY,aZ⟩:=at_T48 fK.out aB bR bT;cases e0;replace aC:=ZC HB.out aC;replace aD:=ZC HB.out aD;replace aE:=ZC HB.out aE;replace aF:=ZC HB.out aF;replace aG:=ZC HB.out aG;replace aH:=ZC HB.out aH;replace aI:=ZC HB.out aI;replace aJ:=ZC HB.out aJ;replace aK:=ZC HB.out aK;replace aL:=ZC HB.out aL;have b4:=A_ aN;have b5:=A_ aM;clear aN aM;have eD:=A_ aP;have eE:=A_ aO;clear aP aO;have eF:=A_ aR;have eG:=A_ aQ;clear aR aQ;have eH:=A_ aT;have eI:=A_ aS;clear aT aS;have eJ:=A_ aV;have eK:=A_ aU;clear aV aU;have eL:=A_ aX;have eM:=A_ aW;clear aX aW;have eN:=A_ aZ;have eO:=A_ aY;clear aZ aY;replace bR:=eq_true bR;replace bT:=eq_true bT
           go_wp2_with (first | ((with_reducible refine gate_dst (N:=4) rfl ?_);(try (refine gate_guard (by rfl) ?_;dsimp only));refine be (cs:=#[.int .i64 0,.slice none 0 0,.slice none 0 0,.int .i64 0,.int .i64 0,.slice none 0 0,.slice none 0 0,.slice none 0 0,.slice none 0 0,.slice none 0 0]) (t:=48) ?_;intro eZ hg mF hbox hb;have bP:=A_ hbox;have dW:=A_ (gl hg (bz Z2));have bQ:=dW;replace HB:=A_ (bst Z2 hb);clear hb hbox hg;obtain ⟨iW,iX,iY,iZ,i1,i2,i3,i4,i5,i6,i7,i8,i9,jA,jB,jC,jD,jE,jF,jG⟩:=C10 bP.out) | ((with_reducible refine gate_callee (f:=17) rfl ?_);refine gL 29 Try.func17 #[.int .i64 ((rd_T48 l0 aB).f0),.int .i64 0,.int .i64 3] ?_;(with_reducible refine (spec_inRange.calls ((rd_T48 l0 aB).f0) 0 3 true _ A9.out).mono ?_);rintro e w' ⟨rfl,⟨nd,rfl⟩⟩;refine ⟨_,rfl,?_⟩) | (go_at_call 27;(with_reducible refine (spec_validValues.calls k2 _ _ ((rd_T48 l0 aB).f1) true _ ?s1 b5.out lN.out).mono ?_);(case s1 => exact Kd.C_below b4.out (Z3 bQ.out));rintro e mG ⟨rfl,hb⟩;replace bP:=A_ (bb (g:=eZ) (o:=.cells #[.int .i64 ((rd_T48 l0 aB).f0),.slice dI ((rd_T48 l0 aB).f1).length dJ,.slice dK ((rd_T48 l0 aB).f2).length dL,.int .i64 ((rd_T48 l0 aB).f3.f0),.int .i64 ((rd_T48 l0 aB).f3.f1),.slice dM ((rd_T48 l0 aB).f3.f2).length dN,.slice dO ((rd_T48 l0 aB).f3.f3).length dP,.slice dQ ((rd_T48 l0 aB).f3.f4).length dR,.slice dS ((rd_T48 l0 aB).f3.f5).length dT,.slice dU ((rd_T48 l0 aB).f3.f6).length dV] 48 (0,0)) (bp0 bP.out) hb);replace HB:=A_ (bst (Z3 bQ.out) hb);(try clear hb)))
           go_roundg k2
           case measure => have:=iA.out;have:=HK2.out;omega
           case rel => exact ⟨(wrap64 (aB + 1)),Z22,H',⟨by have:=iA.out;have:=HK2.out;omega⟩,⟨Z3 bQ.out⟩⟩
          ·replace iV:=Bool.eq_false_iff.mpr iV
           subst iV;rw [if_neg (show ¬ (false = true) by decide)] at H;obtain rfl:=Option.some.inj H;have bR : 0 ≤ (aB : Int):=odt;have bT : aB < (l0.length : Int):=odt;obtain ⟨fL,dI,dJ,dK,dL,dM,dN,dO,dP,dQ,dR,dS,dT,dU,dV,e0,aC,aD,aE,aF,aG,aH,aI,aJ,aK,aL,aM,aN,aO,aP,aQ,aR,aS,aT,aU,aV,aW,aX,aY,aZ⟩:=at_T48 fK.out aB bR bT;cases e0;replace aC:=ZC HB.out aC;replace aD:=ZC HB.out aD;replace aE:=ZC HB.out aE;replace aF:=ZC HB.out aF;replace aG:=ZC HB.out aG;replace aH:=ZC HB.out aH;replace aI:=ZC HB.out aI;replace aJ:=ZC HB.out aJ;replace aK:=ZC HB.out aK;replace aL:=ZC HB.out aL;have b4:=A_ aN;have b5:=A_ aM;clear aN aM;have eD:=A_ aP;have eE:=A_ aO;clear aP aO;have eF:=A_ aR;have eG:=A_ aQ;clear aR aQ;have eH:=A_ aT;have eI:=A_ aS;clear aT aS;have eJ:=A_ aV;have eK:=A_ aU;clear aV aU;have eL:=A_ aX;have eM:=A_ aW;clear aX aW;have eN:=A_ aZ;have eO:=A_ aY;clear aZ aY
           replace bR:=eq_true bR;replace bT:=eq_true bT
           go_wp2_with (first | ((with_reducible refine gate_dst (N:=4) rfl ?_);(try (refine gate_guard (by rfl) ?_;dsimp only));refine be (cs:=#[.int .i64 0,.slice none 0 0,.slice none 0 0,.int .i64 0,.int .i64 0,.slice none 0 0,.slice none 0 0,.slice none 0 0,.slice none 0 0,.slice none 0 0]) (t:=48) ?_;intro eZ hg mH hbox hb;have bP:=A_ hbox;have dW:=A_ (gl hg (bz Z2));have bQ:=dW;replace HB:=A_ (bst Z2 hb);clear hb hbox hg;obtain ⟨jH,jI,jJ,jK,jL,jM,jN,jO,jP,jQ,jR,jS,jT,jU,jV,jW,jX,jY,jZ,j1⟩:=C10 bP.out) | ((with_reducible refine gate_callee (f:=17) rfl ?_);refine gL 29 Try.func17 #[.int .i64 ((rd_T48 l0 aB).f0),.int .i64 0,.int .i64 3] ?_;(with_reducible refine (spec_inRange.calls ((rd_T48 l0 aB).f0) 0 3 true _ A9.out).mono ?_);rintro e w' ⟨rfl,⟨nd,rfl⟩⟩;refine ⟨_,rfl,?_⟩) | (go_at_call 27;(with_reducible refine (spec_validValues.calls k2 _ _ ((rd_T48 l0 aB).f1) false _ ?s1 b5.out lN.out).mono ?_);(case s1 => exact Kd.C_below b4.out (Z3 bQ.out));rintro e mI ⟨rfl,hb⟩;replace bP:=A_ (bb (g:=eZ) (o:=.cells #[.int .i64 ((rd_T48 l0 aB).f0),.slice dI ((rd_T48 l0 aB).f1).length dJ,.slice dK ((rd_T48 l0 aB).f2).length dL,.int .i64 ((rd_T48 l0 aB).f3.f0),.int .i64 ((rd_T48 l0 aB).f3.f1),.slice dM ((rd_T48 l0 aB).f3.f2).length dN,.slice dO ((rd_T48 l0 aB).f3.f3).length dP,.slice dQ ((rd_T48 l0 aB).f3.f4).length dR,.slice dS ((rd_T48 l0 aB).f3.f5).length dT,.slice dU ((rd_T48 l0 aB).f3.f6).length dV] 48 (0,0)) (bp0 bP.out) hb);replace HB:=A_ (bst (Z3 bQ.out) hb);(try clear hb)))
           go_ret
           exact ⟨Z12,Z3 bQ.out⟩
        ·replace c10:=Bool.eq_false_iff.mpr c10
         subst c10;rw [if_neg (show ¬ (false = true) by decide)] at H;obtain rfl:=Option.some.inj H;have bR : 0 ≤ (aB : Int):=odt;have bT : aB < (l0.length : Int):=odt;obtain ⟨fL,dI,dJ,dK,dL,dM,dN,dO,dP,dQ,dR,dS,dT,dU,dV,e0,aC,aD,aE,aF,aG,aH,aI,aJ,aK,aL,aM,aN,aO,aP,aQ,aR,aS,aT,aU,aV,aW,aX,aY,aZ⟩:=at_T48 fK.out aB bR bT;cases e0;replace aC:=ZC HB.out aC;replace aD:=ZC HB.out aD;replace aE:=ZC HB.out aE;replace aF:=ZC HB.out aF;replace aG:=ZC HB.out aG;replace aH:=ZC HB.out aH;replace aI:=ZC HB.out aI;replace aJ:=ZC HB.out aJ;replace aK:=ZC HB.out aK;replace aL:=ZC HB.out aL;have b4:=A_ aN;have b5:=A_ aM;clear aN aM;have eD:=A_ aP;have eE:=A_ aO;clear aP aO;have eF:=A_ aR;have eG:=A_ aQ;clear aR aQ;have eH:=A_ aT;have eI:=A_ aS;clear aT aS;have eJ:=A_ aV;have eK:=A_ aU;clear aV aU;have eL:=A_ aX;have eM:=A_ aW;clear aX aW;have eN:=A_ aZ;have eO:=A_ aY;clear aZ aY
         replace bR:=eq_true bR;replace bT:=eq_true bT
         go_wp2_with (first | ((with_reducible refine gate_dst (N:=4) rfl ?_);(try (refine gate_guard (by rfl) ?_;dsimp only));refine be (cs:=#[.int .i64 0,.slice none 0 0,.slice none 0 0,.int .i64 0,.int .i64 0,.slice none 0 0,.slice none 0 0,.slice none 0 0,.slice none 0 0,.slice none 0 0]) (t:=48) ?_;intro eZ hg mJ hbox hb;have bP:=A_ hbox;have dW:=A_ (gl hg (bz Z2));have bQ:=dW;replace HB:=A_ (bst Z2 hb);clear hb hbox hg;obtain ⟨j2,j3,j4,j5,j6,j7,j8,j9,kA,kB,kC,kD,kE,kF,kG,kH,kI,kJ,kK,kL⟩:=C10 bP.out) | ((with_reducible refine gate_callee (f:=17) rfl ?_);refine gL 29 Try.func17 #[.int .i64 ((rd_T48 l0 aB).f0),.int .i64 0,.int .i64 3] ?_;(with_reducible refine (spec_inRange.calls ((rd_T48 l0 aB).f0) 0 3 false _ A9.out).mono ?_);rintro e w' ⟨rfl,⟨nd,rfl⟩⟩;refine ⟨_,rfl,?_⟩))
         go_ret
         exact ⟨Z12,Z3 bQ.out⟩
       ·rw [if_neg c8] at H
        exact absurd H (by simp)
      ·rw [if_neg c7] at H
       have gO:=df c7;clear c7;have H':=A_ H;clear H
       go_wp2
       go_loopg [5] k2 (fun kq v5 w' => ∃ (aA : Int),v5 = .int .i64 aA ∧ Aside0 (spec_validProg.l1 kq l0 aA = some r) ∧ Aside0 (kq ≤ k2) ∧ Aside0 (Below w.heap.size w w'))
       case atStart => exact ⟨(0),Z22,H',⟨Nat.le_refl _⟩,⟨Z2⟩⟩
       case round =>
        clear H' gO;obtain ⟨aA,rfl,HA,HK3,HB⟩:=hrel
        cases gk with
        | zero => exact absurd HA.out (by simp [spec_validProg.l1])
        | succ k3 =>
         have H:=HA.out;clear HA;simp only [spec_validProg.l1] at H
         by_cases gM : aA < (l0.length : Int)
         ·rw [if_pos gM] at H
          have gS:=dt gM;clear gM
          by_cases kM : 0 ≤ aA
          ·rw [if_pos kM] at H
           have lO:=dt kM;clear kM;replace H:=bS H;obtain ⟨lC,gT,H⟩:=H
           try dsimp only at H
           have lD:=A_ gT;clear gT
           by_cases kN : lC = true
           ·subst kN
            rw [if_pos rfl] at H;replace H:=bS H;obtain ⟨lE,gU,H⟩:=H
            try dsimp only at H
            have lP:=A_ gU;clear gU
            by_cases kO : lE = true
            ·subst kO
             rw [if_pos rfl] at H;have H':=A_ H;clear H;have dX : 0 ≤ (aA : Int):=odt;have dY : aA < (l0.length : Int):=odt;obtain ⟨fI,dZ,d0,d1,d2,d3,d4,d5,d6,d7,d8,d9,eA,eB,eC,fM,a0,a2,a3,a4,a5,a6,a7,a8,a9,bA,bB,bC,bD,bE,bF,bG,bH,bI,bJ,bK,bL,bM,bN,bO⟩:=at_T48 fK.out aA dX dY;cases fM;replace a0:=ZC HB.out a0;replace a2:=ZC HB.out a2;replace a3:=ZC HB.out a3;replace a4:=ZC HB.out a4;replace a5:=ZC HB.out a5;replace a6:=ZC HB.out a6;replace a7:=ZC HB.out a7;replace a8:=ZC HB.out a8;replace a9:=ZC HB.out a9;replace bA:=ZC HB.out bA;have b6:=A_ bC;have b7:=A_ bB;clear bC bB;have b8:=A_ bE;have b9:=A_ bD;clear bE bD;have cA:=A_ bG;have cB:=A_ bF;clear bG bF;have cC:=A_ bI;have cD:=A_ bH;clear bI bH;have cE:=A_ bK;have cF:=A_ bJ;clear bK bJ;have cG:=A_ bM;have cH:=A_ bL;clear bM bL;have cI:=A_ bO;have cJ:=A_ bN;clear bO bN;replace dX:=eq_true dX;replace dY:=eq_true dY
             go_wp2_with (first | ((with_reducible refine gate_callee (f:=28) rfl ?_);refine gL 53 Try.func28 #[.agg #[.int .i64 ((rd_T48 l0 aA).f0),.slice dZ ((rd_T48 l0 aA).f1).length d0,.slice d1 ((rd_T48 l0 aA).f2).length d2,.int .i64 ((rd_T48 l0 aA).f3.f0),.int .i64 ((rd_T48 l0 aA).f3.f1),.slice d3 ((rd_T48 l0 aA).f3.f2).length d4,.slice d5 ((rd_T48 l0 aA).f3.f3).length d6,.slice d7 ((rd_T48 l0 aA).f3.f4).length d8,.slice d9 ((rd_T48 l0 aA).f3.f5).length eA,.slice eB ((rd_T48 l0 aA).f3.f6).length eC]] ?_;(with_reducible refine (spec_validActs.calls k3 ((rd_T48 l0 aA).f0) _ _ ((rd_T48 l0 aA).f1) _ _ ((rd_T48 l0 aA).f2) ((rd_T48 l0 aA).f3.f0) ((rd_T48 l0 aA).f3.f1) _ _ ((rd_T48 l0 aA).f3.f2) _ _ ((rd_T48 l0 aA).f3.f3) _ _ ((rd_T48 l0 aA).f3.f4) _ _ ((rd_T48 l0 aA).f3.f5) _ _ ((rd_T48 l0 aA).f3.f6) true _ ?s1 b7.out ?s3 b9.out ?s5 cB.out ?s7 cD.out ?s9 cF.out ?s11 cH.out ?s13 cJ.out lD.out).mono ?_);(case s1 => exact Z9 b6.out);(case s3 => exact Z9 b8.out);(case s5 => exact Z9 cA.out);(case s7 => exact Z9 cC.out);(case s9 => exact Z9 cE.out);(case s11 => exact Z9 cG.out);(case s13 => exact Z9 cI.out);rintro e mK ⟨rfl,hb⟩;refine ⟨_,rfl,?_⟩;replace HB:=A_ (bst Z2 hb);(try clear hb);have e1 : 0 ≤ (aA : Int):=odt;have e2 : aA < (l0.length : Int):=odt;obtain ⟨fN,fW,fX,fY,fZ,f7,f8,f9,gA,gB,gC,gD,gE,gF,gG,gH,cK,cL,cM,cN,cO,cP,cQ,cR,cS,cT,cU,cV,cW,cX,cY,cZ,dA,dB,dC,dD,dE,dF,dG,dH⟩:=at_T48 fK.out aA e1 e2;obtain rfl : fI = fN:=(by injection gH);replace cK:=ZC HB.out cK;replace cL:=ZC HB.out cL;replace cM:=ZC HB.out cM;replace cN:=ZC HB.out cN;replace cO:=ZC HB.out cO;replace cP:=ZC HB.out cP;replace cQ:=ZC HB.out cQ;replace cR:=ZC HB.out cR;replace cS:=ZC HB.out cS;replace cT:=ZC HB.out cT;have fP:=A_ cV;have fQ:=A_ cU;clear cV cU;have fR:=A_ cX;have fS:=A_ cW;clear cX cW;have eP:=A_ cZ;have eQ:=A_ cY;clear cZ cY;have eR:=A_ dB;have eS:=A_ dA;clear dB dA;have eT:=A_ dD;have eU:=A_ dC;clear dD dC;have eV:=A_ dF;have eW:=A_ dE;clear dF dE;have eX:=A_ dH;have eY:=A_ dG;clear dH dG;replace e1:=eq_true e1;replace e2:=eq_true e2) | (go_at_call 29;(with_reducible refine (spec_validTmpl.calls k3 _ _ l0 aA ((rd_T48 l0 aA).f3.f0) ((rd_T48 l0 aA).f3.f1) _ _ ((rd_T48 l0 aA).f3.f2) _ _ ((rd_T48 l0 aA).f3.f3) _ _ ((rd_T48 l0 aA).f3.f4) _ _ ((rd_T48 l0 aA).f3.f5) _ _ ((rd_T48 l0 aA).f3.f6) 1 0 true _ ?s1 kQ.out ?s3 eQ.out ?s5 eS.out ?s7 eU.out ?s9 eW.out ?s11 eY.out lP.out).mono ?_);(case s1 => exact Z9 fK.out);(case s3 => exact Z9 eP.out);(case s5 => exact Z9 eR.out);(case s7 => exact Z9 eT.out);(case s9 => exact Z9 eV.out);(case s11 => exact Z9 eX.out);rintro e mL ⟨rfl,hb⟩;replace HB:=A_ (bst Z2 hb);(try clear hb)))
             go_roundg k3
             case measure => have:=iA.out;have:=HK2.out;have:=HK3.out;omega
             case rel => exact ⟨(wrap64 (aA + 1)),Z22,H',⟨by have:=iA.out;have:=HK2.out;have:=HK3.out;omega⟩,⟨Z2⟩⟩
            ·replace kO:=Bool.eq_false_iff.mpr kO
             subst kO;rw [if_neg (show ¬ (false = true) by decide)] at H;obtain rfl:=Option.some.inj H;have dX : 0 ≤ (aA : Int):=odt;have dY : aA < (l0.length : Int):=odt;obtain ⟨fI,dZ,d0,d1,d2,d3,d4,d5,d6,d7,d8,d9,eA,eB,eC,fM,a0,a2,a3,a4,a5,a6,a7,a8,a9,bA,bB,bC,bD,bE,bF,bG,bH,bI,bJ,bK,bL,bM,bN,bO⟩:=at_T48 fK.out aA dX dY;cases fM;replace a0:=ZC HB.out a0;replace a2:=ZC HB.out a2;replace a3:=ZC HB.out a3;replace a4:=ZC HB.out a4;replace a5:=ZC HB.out a5;replace a6:=ZC HB.out a6;replace a7:=ZC HB.out a7;replace a8:=ZC HB.out a8;replace a9:=ZC HB.out a9;replace bA:=ZC HB.out bA;have b6:=A_ bC;have b7:=A_ bB;clear bC bB;have b8:=A_ bE;have b9:=A_ bD;clear bE bD;have cA:=A_ bG;have cB:=A_ bF;clear bG bF;have cC:=A_ bI;have cD:=A_ bH;clear bI bH;have cE:=A_ bK;have cF:=A_ bJ;clear bK bJ;have cG:=A_ bM;have cH:=A_ bL;clear bM bL;have cI:=A_ bO;have cJ:=A_ bN;clear bO bN
             replace dX:=eq_true dX;replace dY:=eq_true dY
             go_wp2_with (first | ((with_reducible refine gate_callee (f:=28) rfl ?_);refine gL 53 Try.func28 #[.agg #[.int .i64 ((rd_T48 l0 aA).f0),.slice dZ ((rd_T48 l0 aA).f1).length d0,.slice d1 ((rd_T48 l0 aA).f2).length d2,.int .i64 ((rd_T48 l0 aA).f3.f0),.int .i64 ((rd_T48 l0 aA).f3.f1),.slice d3 ((rd_T48 l0 aA).f3.f2).length d4,.slice d5 ((rd_T48 l0 aA).f3.f3).length d6,.slice d7 ((rd_T48 l0 aA).f3.f4).length d8,.slice d9 ((rd_T48 l0 aA).f3.f5).length eA,.slice eB ((rd_T48 l0 aA).f3.f6).length eC]] ?_;(with_reducible refine (spec_validActs.calls k3 ((rd_T48 l0 aA).f0) _ _ ((rd_T48 l0 aA).f1) _ _ ((rd_T48 l0 aA).f2) ((rd_T48 l0 aA).f3.f0) ((rd_T48 l0 aA).f3.f1) _ _ ((rd_T48 l0 aA).f3.f2) _ _ ((rd_T48 l0 aA).f3.f3) _ _ ((rd_T48 l0 aA).f3.f4) _ _ ((rd_T48 l0 aA).f3.f5) _ _ ((rd_T48 l0 aA).f3.f6) true _ ?s1 b7.out ?s3 b9.out ?s5 cB.out ?s7 cD.out ?s9 cF.out ?s11 cH.out ?s13 cJ.out lD.out).mono ?_);(case s1 => exact Z9 b6.out);(case s3 => exact Z9 b8.out);(case s5 => exact Z9 cA.out);(case s7 => exact Z9 cC.out);(case s9 => exact Z9 cE.out);(case s11 => exact Z9 cG.out);(case s13 => exact Z9 cI.out);rintro e mM ⟨rfl,hb⟩;refine ⟨_,rfl,?_⟩;replace HB:=A_ (bst Z2 hb);(try clear hb);have e1 : 0 ≤ (aA : Int):=odt;have e2 : aA < (l0.length : Int):=odt;obtain ⟨fN,fW,fX,fY,fZ,f7,f8,f9,gA,gB,gC,gD,gE,gF,gG,gH,cK,cL,cM,cN,cO,cP,cQ,cR,cS,cT,cU,cV,cW,cX,cY,cZ,dA,dB,dC,dD,dE,dF,dG,dH⟩:=at_T48 fK.out aA e1 e2;obtain rfl : fI = fN:=(by injection gH);replace cK:=ZC HB.out cK;replace cL:=ZC HB.out cL;replace cM:=ZC HB.out cM;replace cN:=ZC HB.out cN;replace cO:=ZC HB.out cO;replace cP:=ZC HB.out cP;replace cQ:=ZC HB.out cQ;replace cR:=ZC HB.out cR;replace cS:=ZC HB.out cS;replace cT:=ZC HB.out cT;have fP:=A_ cV;have fQ:=A_ cU;clear cV cU;have fR:=A_ cX;have fS:=A_ cW;clear cX cW;have eP:=A_ cZ;have eQ:=A_ cY;clear cZ cY;have eR:=A_ dB;have eS:=A_ dA;clear dB dA;have eT:=A_ dD;have eU:=A_ dC;clear dD dC;have eV:=A_ dF;have eW:=A_ dE;clear dF dE;have eX:=A_ dH;have eY:=A_ dG;clear dH dG;replace e1:=eq_true e1;replace e2:=eq_true e2) | (go_at_call 29;(with_reducible refine (spec_validTmpl.calls k3 _ _ l0 aA ((rd_T48 l0 aA).f3.f0) ((rd_T48 l0 aA).f3.f1) _ _ ((rd_T48 l0 aA).f3.f2) _ _ ((rd_T48 l0 aA).f3.f3) _ _ ((rd_T48 l0 aA).f3.f4) _ _ ((rd_T48 l0 aA).f3.f5) _ _ ((rd_T48 l0 aA).f3.f6) 1 0 false _ ?s1 kQ.out ?s3 eQ.out ?s5 eS.out ?s7 eU.out ?s9 eW.out ?s11 eY.out lP.out).mono ?_);(case s1 => exact Z9 fK.out);(case s3 => exact Z9 eP.out);(case s5 => exact Z9 eR.out);(case s7 => exact Z9 eT.out);(case s9 => exact Z9 eV.out);(case s11 => exact Z9 eX.out);rintro e mN ⟨rfl,hb⟩;replace HB:=A_ (bst Z2 hb);(try clear hb)))
             go_ret
             exact ⟨Z12,Z2⟩
           ·replace kN:=Bool.eq_false_iff.mpr kN
            subst kN;rw [if_neg (show ¬ (false = true) by decide)] at H;obtain rfl:=Option.some.inj H;have dX : 0 ≤ (aA : Int):=odt;have dY : aA < (l0.length : Int):=odt;obtain ⟨fI,dZ,d0,d1,d2,d3,d4,d5,d6,d7,d8,d9,eA,eB,eC,fM,a0,a2,a3,a4,a5,a6,a7,a8,a9,bA,bB,bC,bD,bE,bF,bG,bH,bI,bJ,bK,bL,bM,bN,bO⟩:=at_T48 fK.out aA dX dY;cases fM;replace a0:=ZC HB.out a0;replace a2:=ZC HB.out a2;replace a3:=ZC HB.out a3;replace a4:=ZC HB.out a4;replace a5:=ZC HB.out a5;replace a6:=ZC HB.out a6;replace a7:=ZC HB.out a7;replace a8:=ZC HB.out a8;replace a9:=ZC HB.out a9;replace bA:=ZC HB.out bA;have b6:=A_ bC;have b7:=A_ bB;clear bC bB;have b8:=A_ bE;have b9:=A_ bD;clear bE bD;have cA:=A_ bG;have cB:=A_ bF;clear bG bF;have cC:=A_ bI;have cD:=A_ bH;clear bI bH;have cE:=A_ bK;have cF:=A_ bJ;clear bK bJ;have cG:=A_ bM;have cH:=A_ bL;clear bM bL;have cI:=A_ bO;have cJ:=A_ bN;clear bO bN
            replace dX:=eq_true dX;replace dY:=eq_true dY
            go_wp2_with (first | ((with_reducible refine gate_callee (f:=28) rfl ?_);refine gL 53 Try.func28 #[.agg #[.int .i64 ((rd_T48 l0 aA).f0),.slice dZ ((rd_T48 l0 aA).f1).length d0,.slice d1 ((rd_T48 l0 aA).f2).length d2,.int .i64 ((rd_T48 l0 aA).f3.f0),.int .i64 ((rd_T48 l0 aA).f3.f1),.slice d3 ((rd_T48 l0 aA).f3.f2).length d4,.slice d5 ((rd_T48 l0 aA).f3.f3).length d6,.slice d7 ((rd_T48 l0 aA).f3.f4).length d8,.slice d9 ((rd_T48 l0 aA).f3.f5).length eA,.slice eB ((rd_T48 l0 aA).f3.f6).length eC]] ?_;(with_reducible refine (spec_validActs.calls k3 ((rd_T48 l0 aA).f0) _ _ ((rd_T48 l0 aA).f1) _ _ ((rd_T48 l0 aA).f2) ((rd_T48 l0 aA).f3.f0) ((rd_T48 l0 aA).f3.f1) _ _ ((rd_T48 l0 aA).f3.f2) _ _ ((rd_T48 l0 aA).f3.f3) _ _ ((rd_T48 l0 aA).f3.f4) _ _ ((rd_T48 l0 aA).f3.f5) _ _ ((rd_T48 l0 aA).f3.f6) false _ ?s1 b7.out ?s3 b9.out ?s5 cB.out ?s7 cD.out ?s9 cF.out ?s11 cH.out ?s13 cJ.out lD.out).mono ?_);(case s1 => exact Z9 b6.out);(case s3 => exact Z9 b8.out);(case s5 => exact Z9 cA.out);(case s7 => exact Z9 cC.out);(case s9 => exact Z9 cE.out);(case s11 => exact Z9 cG.out);(case s13 => exact Z9 cI.out);rintro e mO ⟨rfl,hb⟩;refine ⟨_,rfl,?_⟩;replace HB:=A_ (bst Z2 hb);(try clear hb)))
            go_ret
            exact ⟨Z12,Z2⟩
          ·rw [if_neg kM] at H
           exact absurd H (by simp)
         ·rw [if_neg gM] at H
          have gS:=df gM;clear gM;replace H:=bS H;obtain ⟨fO,gV,H⟩:=H
          try dsimp only at H
          have mA:=A_ gV;clear gV
          by_cases kP : 0 < (fO.length : Int)
          ·rw [if_pos kP] at H
           have lQ:=dt kP;have lR : decide (0 < fO.length) = true:=dt (by omega);clear kP;obtain rfl:=Option.some.inj H
           go_wp2_with (first | ((with_reducible refine gate_callee (f:=30) rfl ?_);refine gL 67 Try.func30 #[.slice A0 l0.length c0] ?_;(with_reducible refine (spec_sizes.calls k3 _ _ l0 fO _ ?s1 kQ.out mA.out).mono ?_);(case s1 => exact Z9 fK.out);rintro e mP ⟨mB,rfl,lS,hb⟩;refine ⟨_,rfl,?_⟩;have fT:=A_ (Kd.R_lower lS (bz Z2));replace HB:=A_ (bst Z2 hb);(try clear hb);(try clear lS);obtain ⟨mC,mD,lF⟩:=Kd.R_slice fT.out;subst lF;have gI : 0 ≤ (0 : Int):=(by omega);have gJ : 0 < (fO.length : Int):=odt;obtain ⟨lT,lG,fJ⟩:=Kd.at_int (Kd.R_reads' fT.out).2.2 0 gI gJ;cases lG;have lU : (0 < fO.length) = True:=eq_true (by omega);(try rw [show ((0 : Int)).toNat = 0 from rfl] at fJ);(try rw [Addr.add_zero'] at fJ);replace gI:=eq_true gI;replace gJ:=eq_true gJ))
           go_ret
           exact ⟨Z12,Z2⟩
          ·rw [if_neg kP] at H
           exact absurd H (by simp)
def spec_source_rarely.f (k : Nat) (aB : List Int) (aC : Int) (aD : Int) : Option (Bool × Int × Int):=(spec_source_pick.f k aB aC aD 40).bind fun aA => (some ((aA.1 == 1),aA.2.1,aA.2.2))
theorem spec_source_rarely.mono : ∀ a0 a1 a2 k,LeO (spec_source_rarely.f k a0 a1 a2) (spec_source_rarely.f (k + 1) a0 a1 a2):=by
 intro a0 a1 a2 k
 unfold spec_source_rarely.f
 repeat' first
   | (with_reducible exact spec_source_pick.mono _ _ _ _ _)
   | (with_reducible exact LeO.refl _)
   | (with_reducible exact LeO.none _)
   | (with_reducible refine LeO.ite ?_ ?_)
   | (with_reducible refine LeO.bind ?_ (fun _ => ?_))
   | exact spec_source_pick.mono _ _ _ _ _
   | exact LeO.none _
   | refine LeO.ite ?_ ?_
   | refine LeO.bind ?_ (fun _ => ?_)
theorem spec_source_rarely.calls (k : Nat) (g : Nat) (aA : List Int) (aB : Int) (aC : Int) (r1 : Bool) (r2 : Int) (r3 : Int) (w0 w : World) (hI : IsS52 w0 w g aA aB aC) (hB : Below w0.heap.size w0 w) (h : spec_source_rarely.f k aA aB aC = some (r1,r2,r3)) :
  Calls Try.prog 23 #[.pointer (some ⟨g,0,none⟩)] w fun e w' => e = .returned (.bool r1) ∧ IsS52 w0 w' g aA r2 r3 ∧ Below w0.heap.size w0 w' ∧ KeepBut w w' g none:=by
 have HI0:=A_ hI;have HK:=A_ (KeepBut.refl w g none);have HL:=A_ hB.size;clear hI;have aH:=A_ hB.size;have HB:=A_ hB;clear hB;have H:=h;unfold spec_source_rarely.f at H;clear h;replace H:=bS H;obtain ⟨⟨aD,aE,aF⟩,aG,H⟩:=H
 try dsimp only at H
 have A2:=A_ aG;clear aG;simp only [Option.some.injEq,Prod.mk.injEq] at H;obtain ⟨rfl,rfl,rfl⟩:=H
 go_enter Try.func23,Try.ntmps23
 go_wp2_with (first | ((with_reducible refine gate_callee (f:=12) rfl ?_);refine gL 4 Try.func12 #[.pointer (some ⟨g,0,none⟩),.int .i64 40] ?_;(with_reducible refine (spec_source_pick.calls k g aA aB aC 40 aD aE aF w0 _ ?s1 ?s2 A2.out).mono ?_);(case s1 => exact Z7 HI0.out);(case s2 => exact Z10 HI0.out);rintro e w3 ⟨rfl,hi,hb,hk⟩;refine ⟨_,rfl,?_⟩;replace HK:=A_ (kt Z5 hk (.inl rfl));replace HB:=A_ hb;replace HI0:=A_ hi;(try clear hb)))
 go_ret
 exact ⟨Z12,Z7 HI0.out,Z10 HI0.out,Z5⟩
end Go.Proofs.Ytmgdjmeoljepgaa.PFnProgBelow
