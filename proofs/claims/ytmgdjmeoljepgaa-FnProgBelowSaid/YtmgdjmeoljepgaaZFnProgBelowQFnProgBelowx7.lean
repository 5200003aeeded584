/- Walks (lines of the print; no condition). -/
import Derived.Test.YtmgdjmeoljepgaaZFnProgBelowQFnProgBelowx5
import Derived.Test.YtmgdjmeoljepgaaZFnProgBelowQFnProgBelowx6
namespace Go.Proofs.Ytmgdjmeoljepgaa.PFnProgBelow
open Go.RowKit Go.Proofs.YtmgdjmeoljepgaaW.PrintWords Go.Proofs.YtmgdjmeoljepgaaW.PrintLast Go.Proofs.YtmgdjmeoljepgaaW.PrintMore
attribute [local go_sem] max2_int min2_int max_two min_two max_three min_three max_four min_four
set_option linter.unusedVariables false
set_option linter.unusedSimpArgs false
mutual
def spec_validHead.j0 : Nat → List (S48) → Int → Bool → Int → Int → List Int → List (List (S70)) → List (S70) → List (S76) → List (S46) → Option (Bool)
 | 0,_,_,_,_,_,_,_,_,_,_ => none
 | k + 1,x0,x1,aN,aA,aB,aD,aC,aF,aE,aG => if aN = true then (some false) else (if aA = 0 then (spec_validHead.j1 k x0 x1 aA (aA == 0) aA aB aD aC aF aE aG) else (if aA = 2 then (spec_validHead.j1 k x0 x1 aA (aA == 2) aA aB aD aC aF aE aG) else (spec_validHead.j1 k x0 x1 aA (aA == 3) aA aB aD aC aF aE aG)))
def spec_validHead.j1 : Nat → List (S48) → Int → Int → Bool → Int → Int → List Int → List (List (S70)) → List (S70) → List (S76) → List (S46) → Option (Bool)
 | 0,_,_,_,_,_,_,_,_,_,_,_ => none
 | k + 1,x0,x1,aH,aO,aA,aB,aD,aC,aF,aE,aG => if aO = true then (if aB = 0 then (some ((aC.length : Int) == 1)) else (some false)) else (if aH = 1 then ((spec_inRange.f aB 0 4).bind fun aI => (if aI = true then (if (aC.length : Int) = (aD.length : Int) then ((spec_validNames.f k aD).bind fun aJ => (if aJ = true then (if 0 ≤ x1 then (if x1 < (x0.length : Int) then ((spec_validOns.f k aE (((rd_T48 x0 x1).f2).length : Int)).bind fun aK => (some aK)) else (none)) else (none)) else (some false))) else (some false)) else (some false))) else (if aH = 4 then ((spec_inRange.f aB (wrap64 (x1 + 1)) (wrap64 ((x0.length : Int) - 1))).bind fun aL => (if aL = true then (if 0 ≤ aB then (if aB < (x0.length : Int) then (some ((aC.length : Int) == ((rd_T48 x0 aB).f0))) else (none)) else (none)) else (some false))) else (if aH = 5 then ((spec_inRange.f aB 0 1).bind fun aM => (if aM = true then (some ((aC.length : Int) == 1)) else (some false))) else (some false))))
end
def spec_validHead.f (k : Nat) (l0 : List (S48)) (a1 : Int) (aA : Int) (aD : Int) (aC : List Int) (aE : List (List (S70))) (aB : List (S70)) (l2_5 : List (S76)) (aF : List (S46)) : Option (Bool):=if aA = 1 then (if aA = 3 then (spec_validHead.j0 k l0 a1 false aA aD aC aE aB l2_5 aF) else (spec_validHead.j0 k l0 a1 (decide ((aB.length : Int) > 0)) aA aD aC aE aB l2_5 aF)) else (if (aC.length : Int) > 0 then (spec_validHead.j0 k l0 a1 true aA aD aC aE aB l2_5 aF) else (if (l2_5.length : Int) > 0 then (spec_validHead.j0 k l0 a1 true aA aD aC aE aB l2_5 aF) else (if aA = 3 then (spec_validHead.j0 k l0 a1 false aA aD aC aE aB l2_5 aF) else (spec_validHead.j0 k l0 a1 (decide ((aB.length : Int) > 0)) aA aD aC aE aB l2_5 aF))))
def spec_validHead.T9 : Bool × List (List Nat × List Nat):=(true,[([],[]),([0],[0]),([1],[1]),([2,2],[2]),([3],[3]),([4,3],[3,4]),([5,3],[3,5]),([3],[3]),([7,3],[3,7]),([8,3],[3,8]),([6,9,3],[3,6,9]),([3,10],[3,10]),([11,3],[11]),([12],[12]),([13,12],[12,13]),([14,12,12],[12,14]),([12,15],[12,15]),([16,15],[16]),([17],[17]),([18,17],[17,18]),([17],[17]),([17],[17]),([20,21,17],[17,20,21]),([22,17],[17,22]),([23,17],[17,23]),([24,17],[17,24]),([19,25,17,17],[17,19,25]),([17,26],[17,26]),([27,26,0,1,2,3,4,5,6,7,8,9,10,11,12,13,14,15,16,17,18,19,20,21,22,23,24,25,26,27],[27])])
def spec_validHead.B9 : List Nat:=[0,1,3,7,15,31,63,15,143,399,1023,2047,4095,8191,16383,32767,65535,131071,262143,524287,262143,262143,3407871,7602175,15990783,32767999,67108863,134217727,268435455]
theorem spec_validHead.tab9 : rtab .any (opsOf Try.f42 9) = spec_validHead.T9:=by kernel_rfl
theorem spec_validHead.bits9 : waitsOk spec_validHead.T9.2 spec_validHead.B9 = true:=by kernel_rfl
def spec_validHead.T11 : Bool × List (List Nat × List Nat):=(true,[([],[]),([0],[0]),([],[]),([2],[2]),([],[]),([4],[4]),([5],[5]),([1,3,6],[1,3,6]),([7,7],[7]),([8],[8]),([9,8],[8,9]),([10,8],[8,10]),([8],[8]),([8],[8]),([13,8],[8,13]),([12,14,8],[8,12,14]),([15,8],[8,15]),([16,8],[8,16]),([11,17,8],[8,11,17]),([8,18],[8,18]),([19,8,0,1,2,3,4,5,6,7,8,9,10,11,12,13,14,15,16,17,18,19],[19])])
def spec_validHead.B11 : List Nat:=[0,1,0,4,0,16,48,127,255,511,1023,2047,511,511,8703,29183,61951,127487,262143,524287,1048575]
theorem spec_validHead.tab11 : rtab .any (opsOf Try.f42 11) = spec_validHead.T11:=by kernel_rfl
theorem spec_validHead.bits11 : waitsOk spec_validHead.T11.2 spec_validHead.B11 = true:=by kernel_rfl
set_option maxHeartbeats 8000000 in
set_option maxRecDepth 100000 in
theorem spec_validHead.calls (k : Nat) (A0 : Option Addr) (c0 : Nat) (l0 : List (S48)) (a1 : Int) (aD : Int) (aB : Int) (aL : Option Addr) (aM : Nat) (aF : List Int) (bK : Option Addr) (bL : Nat) (aI : List (List (S70))) (bM : Option Addr) (bN : Nat) (aJ : List (S70)) (aN : Option Addr) (aO : Nat) (l2_5 : List (S76)) (bO : Option Addr) (bP : Nat) (aK : List (S46)) (r : Bool) (w : World) (mU : Kd.C k48 w A0 l0.length l0) (hc0 : l0.length ≤ c0) (d2 : Kd.C (Kd.int .i64) w aL aF.length aF) (d3 : aF.length ≤ aM) (d4 : Kd.C (Kd.slice 70 k70) w bK aI.length aI) (d5 : aI.length ≤ bL) (d6 : Kd.C k70 w bM aJ.length aJ) (d7 : aJ.length ≤ bN) (d8 : Kd.C k76 w aN l2_5.length l2_5) (d9 : l2_5.length ≤ aO) (eA : Kd.C k46 w bO aK.length aK) (eB : aK.length ≤ bP) (h : spec_validHead.f k l0 a1 aD aB aF aI aJ l2_5 aK = some r) :
  Calls Try.prog 42 #[.slice A0 l0.length c0,.int .i64 a1,.agg #[.int .i64 aD,.int .i64 aB,.slice aL aF.length aM,.slice bK aI.length bL,.slice bM aJ.length bN,.slice aN l2_5.length aO,.slice bO aK.length bP]] w fun e w' => e = .returned (.bool r) ∧ Below w.heap.size w w':=by
 have m9:=Try.underlying46;have mV:=A_ mU;have nF:=A_ hc0;clear mU hc0;have eC:=A_ d2;have eD:=A_ d3;clear d2 d3;have mW:=A_ d4;have mX:=A_ d5;clear d4 d5;have mY:=A_ d6;have mZ:=A_ d7;clear d6 d7;have fK:=A_ d8;have fL:=A_ d9;clear d8 d9;have m0:=A_ eA;have m1:=A_ eB;clear eA eB;have HB:=A_ (Below.refl w.heap.size w);have H:=h;unfold spec_validHead.f at H;clear h;have lG:=A_ H;clear H
 go_enter Try.func42,Try.ntmps42
 go_upto_region 1 with (first | ((with_reducible refine gate_dst (N:=5) rfl ?_);(try (refine gate_guard (by rfl) ?_;dsimp only));refine be (cs:=#[.int .i64 aD,.int .i64 aB,.slice aL aF.length aM,.slice bK aI.length bL,.slice bM aJ.length bN,.slice aN l2_5.length aO,.slice bO aK.length bP]) (t:=46) ?_;intro aC hg w5 hbox hb;have aA:=A_ hbox;have fM:=A_ (gl hg (bz Z2));have aE:=fM;replace HB:=A_ (bst Z2 hb);clear hb hbox hg))
 (try simp only [Act.put,List.setIfInBounds_toArray,List.set_cons_zero,List.set_cons_succ])
 go_cut [32] (fun nA wc => ∃ (kq : Nat) (bV : Bool),nA = .bool bV ∧ Aside0 (spec_validHead.j0 kq l0 a1 bV aD aB aF aI aJ l2_5 aK = some r) ∧ Aside0 (kq ≤ k) ∧ Aside0 (wc.heap[aC]? = some (.cells #[.int .i64 aD,.int .i64 aB,(.slice aL aF.length aM),(.slice bK aI.length bL),(.slice bM aJ.length bN),(.slice aN l2_5.length aO),(.slice bO aK.length bP)] 46 (0,0))) ∧ Aside0 (Below w.heap.size w wc))
 case first =>
  have H:=lG.out;clear lG
  by_cases c6 : aD = 1
  ·rw [if_pos c6] at H
   have cY:=e_t c6;have lH:=n_f c6;clear c6;(first | rw [cY] | (simp only [i64_w,i32_w];rw [cY]) | skip)
   by_cases c7 : aD = 3
   ·rw [if_pos c7] at H
    have lI:=e_t c7;have lJ:=n_f c7;clear c7;have H':=A_ H;clear H;obtain ⟨lK,lL,lM,lN,lO,lP,lQ,lR,lS,lT,lU,lV,lW,lX⟩:=C7 aA.out
    go_wp2
    go_meet
    case rel => exact ⟨_,(false),Z22,H',⟨Z47⟩,⟨Z1 aA.out⟩,⟨Z3 aE.out⟩⟩
   ·rw [if_neg c7] at H
    have lI:=e_f c7;have lJ:=n_t c7;have H':=A_ H;clear H;obtain ⟨lY,lZ,mA,mB,mC,mD,mE,mF,mG,mH,mI,mJ,mK,mL⟩:=C7 aA.out
    go_wp2
    go_meet
    case rel => exact ⟨_,(decide ((aJ.length : Int) > 0)),Z22,H',⟨Z47⟩,⟨Z1 aA.out⟩,⟨Z3 aE.out⟩⟩
  ·rw [if_neg c6] at H
   have cY:=e_f c6;have lH:=n_t c6;(first | rw [cY] | (simp only [i64_w,i32_w];rw [cY]) | skip)
   by_cases c10 : (aF.length : Int) > 0
   ·rw [if_pos c10] at H
    have fN : decide (0 < (aF.length : Int)) = true:=dt c10;have fO : decide (0 < aF.length) = true:=dt (by omega);clear c10;have H':=A_ H;clear H;obtain ⟨gJ,gK,gM,gN,gO,gP,gQ,gR,gS,gT,gU,gV,gW,gX⟩:=C7 aA.out
    go_wp2
    go_meet
    case rel => exact ⟨_,(true),Z22,H',⟨Z47⟩,⟨Z1 aA.out⟩,⟨Z3 aE.out⟩⟩
   ·rw [if_neg c10] at H
    have fN : decide (0 < (aF.length : Int)) = false:=df c10;have fO : decide (0 < aF.length) = false:=df (by omega);clear c10
    by_cases fJ : (l2_5.length : Int) > 0
    ·rw [if_pos fJ] at H
     have fP : decide (0 < (l2_5.length : Int)) = true:=dt fJ;have fQ : decide (0 < l2_5.length) = true:=dt (by omega);clear fJ;have H':=A_ H;clear H;obtain ⟨gY,gZ,hD,hI,hJ,hL,hO,hU,hV,hX,hY,hZ,iA,iB⟩:=C7 aA.out
     go_wp2
     go_meet
     case rel => exact ⟨_,(true),Z22,H',⟨Z47⟩,⟨Z1 aA.out⟩,⟨Z3 aE.out⟩⟩
    ·rw [if_neg fJ] at H
     have fP : decide (0 < (l2_5.length : Int)) = false:=df fJ;have fQ : decide (0 < l2_5.length) = false:=df (by omega);clear fJ
     by_cases eE : aD = 3
     ·rw [if_pos eE] at H
      have fR:=e_t eE;have fS:=n_f eE;clear eE;have H':=A_ H;clear H;obtain ⟨iC,iD,iE,iF,iG,iH,iI,iJ,iK,iL,iM,iN,iO,iP⟩:=C7 aA.out
      go_wp2
      go_meet
      case rel => exact ⟨_,(false),Z22,H',⟨Z47⟩,⟨Z1 aA.out⟩,⟨Z3 aE.out⟩⟩
     ·rw [if_neg eE] at H
      have fR:=e_f eE;have fS:=n_t eE;have H':=A_ H;clear H;obtain ⟨iQ,iR,iS,iT,iU,iV,iW,iX,iY,iZ,i1,i2,i3,i4⟩:=C7 aA.out
      go_wp2
      go_meet
      case rel => exact ⟨_,(decide ((aJ.length : Int) > 0)),Z22,H',⟨Z47⟩,⟨Z1 aA.out⟩,⟨Z3 aE.out⟩⟩
 case rest =>
  clear lG;obtain ⟨kq,bV,rfl,HA,mM,aA,HB⟩:=hcut
  cases kq with
  | zero => exact absurd HA.out (by simp [spec_validHead.j0])
  | succ nB =>
   have H:=HA.out;clear HA;simp only [spec_validHead.j0] at H
   by_cases i5 : bV = true
   ·subst i5
    rw [if_pos rfl] at H;obtain rfl:=Option.some.inj H
    go_wp2
    go_ret
    exact ⟨Z12,Z3 aE.out⟩
   ·replace i5:=Bool.eq_false_iff.mpr i5
    subst i5;rw [if_neg (show ¬ (false = true) by decide)] at H;have eF:=A_ H;clear H;obtain ⟨dA,dB,dC,dD,dE,dF,dG,dH,dI,dJ,dK,dL,dM,dN⟩:=C7 aA.out
    go_upto_if 35 with (fail)
    go_cut [35] (fun nC wc => ∃ (kq : Nat) (bT : Bool),nC = .bool bT ∧ Aside0 (spec_validHead.j1 kq l0 a1 aD bT aD aB aF aI aJ l2_5 aK = some r) ∧ Aside0 (kq ≤ nB) ∧ Aside0 (wc.heap[aC]? = some (.cells #[.int .i64 aD,.int .i64 aB,(.slice aL aF.length aM),(.slice bK aI.length bL),(.slice bM aJ.length bN),(.slice aN l2_5.length aO),(.slice bO aK.length bP)] 46 (0,0))) ∧ Aside0 (Below w.heap.size w wc))
    case first =>
     have H:=eF.out;clear eF
     by_cases eG : aD = 0
     ·rw [if_pos eG] at H
      have bU:=e_t eG;have fT:=n_f eG;clear eG;(first | rw [bU] | (simp only [i64_w,i32_w];rw [bU]) | skip);have H':=A_ H;clear H
      go_wp2
      go_meet
      case rel => exact ⟨_,((aD == 0)),Z22,H',⟨by have:=mM.out;first | omega | exact Nat.le_refl _⟩,⟨Z1 aA.out⟩,⟨Z3 aE.out⟩⟩
     ·rw [if_neg eG] at H
      have bU:=e_f eG;have fT:=n_t eG;(first | rw [bU] | (simp only [i64_w,i32_w];rw [bU]) | skip)
      by_cases eH : aD = 2
      ·rw [if_pos eH] at H
       have fU:=e_t eH;have fV:=n_f eH;clear eH;have H':=A_ H;clear H
       go_wp2
       go_meet
       case rel => exact ⟨_,((aD == 2)),Z22,H',⟨by have:=mM.out;first | omega | exact Nat.le_refl _⟩,⟨Z1 aA.out⟩,⟨Z3 aE.out⟩⟩
      ·rw [if_neg eH] at H
       have fU:=e_f eH;have fV:=n_t eH;have H':=A_ H;clear H
       go_wp2
       go_meet
       case rel => exact ⟨_,((aD == 3)),Z22,H',⟨by have:=mM.out;first | omega | exact Nat.le_refl _⟩,⟨Z1 aA.out⟩,⟨Z3 aE.out⟩⟩
    case rest =>
     clear eF dA dB dC dD dE dF dG dH dI dJ dK dL dM dN;obtain ⟨kq,bT,rfl,HA,nD,aA,HB⟩:=hcut
     cases kq with
     | zero => exact absurd HA.out (by simp [spec_validHead.j1])
     | succ eI =>
      have H:=HA.out;clear HA;simp only [spec_validHead.j1] at H
      by_cases i6 : bT = true
      ·subst i6
       rw [if_pos rfl] at H
       by_cases eJ : aB = 0
       ·rw [if_pos eJ] at H
        have fW:=e_t eJ;have fX:=n_f eJ;clear eJ;obtain rfl:=Option.some.inj H;obtain ⟨i7,i8,i9,jA,jB,jC,jD,jE,jF,jG,jH,jI,jJ,jK⟩:=C7 aA.out
        go_wp2
        go_ret
        exact ⟨Z12,Z3 aE.out⟩
       ·rw [if_neg eJ] at H
        have fW:=e_f eJ;have fX:=n_t eJ;obtain rfl:=Option.some.inj H;obtain ⟨jL,jM,jN,jO,jP,jQ,jR,jS,jT,jU,jV,jW,jX,jY⟩:=C7 aA.out
        go_wp2
        go_ret
        exact ⟨Z12,Z3 aE.out⟩
      ·replace i6:=Bool.eq_false_iff.mpr i6
       subst i6;rw [if_neg (show ¬ (false = true) by decide)] at H
       by_cases eK : aD = 1
       ·rw [if_pos eK] at H
        have fY:=e_t eK;have fZ:=n_f eK;clear eK;replace H:=bS H;obtain ⟨mN,f7,H⟩:=H
        try dsimp only at H
        have jZ:=A_ f7;clear f7
        by_cases j2 : mN = true
        ·subst j2
         rw [if_pos rfl] at H
         by_cases cZ : (aI.length : Int) = (aF.length : Int)
         ·rw [if_pos cZ] at H
          have f8 : ((aI.length : Int) == (aF.length : Int)) = true:=beq_iff_eq.mpr cZ;have f9 : ((aI.length : Int) != (aF.length : Int)) = false:=bne_eq_false_iff_eq.mpr cZ
          have gA : (aI.length == aF.length) = true:=by first | simpa using cZ | (simp at cZ ⊢;omega)
          clear cZ;replace H:=bS H;obtain ⟨mO,gB,H⟩:=H
          try dsimp only at H
          have m2:=A_ gB;clear gB
          by_cases j3 : mO = true
          ·subst j3
           rw [if_pos rfl] at H
           by_cases j4 : 0 ≤ a1
           ·rw [if_pos j4] at H
            have m3:=dt j4;clear j4
            by_cases j5 : a1 < (l0.length : Int)
            ·rw [if_pos j5] at H
             have m4:=dt j5;clear j5;replace H:=bS H;obtain ⟨mP,gC,H⟩:=H
             try dsimp only at H
             have nE:=A_ gC;clear gC;obtain rfl:=Option.some.inj H
             try go_wp2
             have bQ:=A_ (blk_drew aA.out);have bR:=A_ (below_drew1 HB.out);clear aA HB;have aA:=bQ;have HB:=bR;clear bQ bR;have eL : 0 ≤ (a1 : Int):=odt;have eM : a1 < (l0.length : Int):=odt;obtain ⟨aG,eN,eO,eP,eQ,eR,eS,eT,eU,eV,eW,eX,eY,eZ,e0,mQ,aP,aQ,aR,aS,aT,aU,aV,aW,aX,aY,bW,bX,bY,bZ,b0,b1,b2,b3,b4,b5,b6,b7,b8,b9⟩:=at_T48 mV.out a1 eL eM;have aZ:=aY;have a0:=aX;have a2:=aW;have a3:=aV;have a4:=aU;have a5:=aT;have a6:=aS;have a7:=aR;have a8:=aQ;have a9:=aP;cases mQ;replace aP:=ZC HB.out aP;replace aQ:=ZC HB.out aQ;replace aR:=ZC HB.out aR;replace aS:=ZC HB.out aS;replace aT:=ZC HB.out aT;replace aU:=ZC HB.out aU;replace aV:=ZC HB.out aV;replace aW:=ZC HB.out aW;replace aX:=ZC HB.out aX;replace aY:=ZC HB.out aY;have dO:=A_ bX;have j6:=A_ bW;clear bX bW;have dP:=A_ bZ;have j7:=A_ bY;clear bZ bY;have dQ:=A_ b1;have j8:=A_ b0;clear b1 b0;have dR:=A_ b3
             have j9:=A_ b2;clear b3 b2;have dS:=A_ b5;have kA:=A_ b4;clear b5 b4;have dT:=A_ b7;have kB:=A_ b6;clear b7 b6;have dU:=A_ b9;have kC:=A_ b8;clear b9 b8;replace eL:=eq_true eL;replace eM:=eq_true eM
             refine start_ (n:=29) (S:=fun w' => P_7_ w' aC (.int .i64 aD) (.int .i64 aB) (.slice aL aF.length aM) (.slice bK aI.length bL) (.slice bM aJ.length bN) (.slice aN l2_5.length aO) (.slice bO aK.length bP) (R_10 w' (aG.add ((a1).toNat * 10)) (.int .i64 ((rd_T48 l0 a1).f0)) (.slice eN ((rd_T48 l0 a1).f1).length eO) (.slice eP ((rd_T48 l0 a1).f2).length eQ) (.int .i64 ((rd_T48 l0 a1).f3.f0)) (.int .i64 ((rd_T48 l0 a1).f3.f1)) (.slice eR ((rd_T48 l0 a1).f3.f2).length eS) (.slice eT ((rd_T48 l0 a1).f3.f3).length eU) (.slice eV ((rd_T48 l0 a1).f3.f4).length eW) (.slice eX ((rd_T48 l0 a1).f3.f5).length eY) (.slice eZ ((rd_T48 l0 a1).f3.f6).length e0))) (ds:=[]) M118 (by kernel_rfl) rfl rfl (D_7_ aA.out ⟨(ZC HB.out a9 :),(ZC HB.out a8 :),(ZC HB.out a7 :),(ZC HB.out a6 :),(ZC HB.out a5 :),(ZC HB.out a4 :),(ZC HB.out a3 :),(ZC HB.out a2 :),(ZC HB.out a0 :),(ZC HB.out aZ :)⟩) (fun hHeld => ?_);refine with_tabW spec_validHead.tab9 spec_validHead.bits9 (fun HT_ HW_ => ?_)
             generalize wc.drew = nG at aA HB dO dP dQ dR dS dT dU aP aQ aR aS aT aU aV aW aX aY hHeld ⊢;refine pU 0 50 M119 ?_;refine tU 1 51 M120 ?_ (y:=Z39)
             refine oU 2 (some 52) M121 (fun K hK => ?_)
             refine goes_ Try.func17 (by kernel_rfl) rfl #[.int .i64 aB,.int .i64 0,.int .i64 4] (by rfl) rfl rfl Z25 ?_
             with_reducible refine (spec_inRange.calls aB 0 4 true _ jZ.out).mono ?_
             rintro e w' ⟨rfl,⟨nd,rfl⟩⟩
             refine ⟨_,rfl,?_⟩
             refine hK.out _ _ (D_7_ aA.out ⟨(ZC HB.out a9 :),(ZC HB.out a8 :),(ZC HB.out a7 :),(ZC HB.out a6 :),(ZC HB.out a5 :),(ZC HB.out a4 :),(ZC HB.out a3 :),(ZC HB.out a2 :),(ZC HB.out a0 :),(ZC HB.out aZ :)⟩) (fun hHeld => ?_)
             clear hK K
             refine norm_ (a':=?_) ?_ ?_
             rotate_left;(·exact Z67);refine pU 3 53 M122 ?_;refine pU 4 54 M123 ?_;refine pU 7 57 M124 ?_;refine tU 5 55 M125 ?_ (y:=Z39);refine pU 6 56 M126 ?_;refine tU 8 58 M127 ?_ (y:=Z39);refine pU 9 59 M128 ?_;refine pU 10 60 M129 ?_;refine pU 11 61 M130 ?_;refine pU 12 62 M131 ?_;refine pU 13 63 M132 ?_;refine tU 14 64 M133 ?_ (y:=Z39)
             refine oU 15 (some 65) M134 (fun K hK => ?_)
             refine goes_ Try.func51 (by kernel_rfl) rfl #[.slice aL aF.length aM] (by rfl) rfl rfl Z25 ?_
             with_reducible refine (spec_validNames.calls eI _ _ aF true _ ?s1 ?s2 m2.out).mono ?_
             (case s1 => repeat (first | exact (Kd.C_below eC.out (Z3 aE.out)) | (with_reducible refine Kd.C_alloc ?_ _) | (with_reducible refine Kd.C_drewN ?_ _) | (with_reducible refine Kd.C_drew ?_)))
             (case s2 => exact eD.out)
             rintro e w' ⟨rfl,⟨nd,rfl⟩⟩
             refine ⟨_,rfl,?_⟩
             refine hK.out _ _ (D_7_ aA.out ⟨(ZC HB.out a9 :),(ZC HB.out a8 :),(ZC HB.out a7 :),(ZC HB.out a6 :),(ZC HB.out a5 :),(ZC HB.out a4 :),(ZC HB.out a3 :),(ZC HB.out a2 :),(ZC HB.out a0 :),(ZC HB.out aZ :)⟩) (fun hHeld => ?_)
             clear hK K
             refine norm_ (a':=?_) ?_ ?_
             rotate_left
             ·show Act.put _ (some 65) _ = _
              simp only [Act.put,List.setIfInBounds_toArray,List.set_cons_zero,List.set_cons_succ,i64_w,i32_w]
              rfl
             refine pU 16 66 M135 ?_;refine pU 17 67 M136 ?_;refine pU 18 68 M137 ?_;refine pU 20 70 #[T,T,T,T,T,T,T,T,T,T,T,T,T,T,T,T,T,T,T,F,T,F,F,F,F,F,F,F,F] ?_;refine pU 21 71 #[T,T,T,T,T,T,T,T,T,T,T,T,T,T,T,T,T,T,T,F,T,T,F,F,F,F,F,F,F] ?_;refine pU 22 72 #[T,T,T,T,T,T,T,T,T,T,T,T,T,T,T,T,T,T,T,F,T,T,T,F,F,F,F,F,F] ?_;refine pU 23 73 #[T,T,T,T,T,T,T,T,T,T,T,T,T,T,T,T,T,T,T,F,T,T,T,T,F,F,F,F,F] ?_;refine tU 19 69 M138 ?_ (y:=Z39);refine tU 24 74 M139 ?_ (y:=Z39);refine pU 25 75 M140 ?_
             refine oU 26 (some 76) M141 (fun K hK => ?_)
             refine goes_ Try.func52 (by kernel_rfl) rfl #[.slice aN l2_5.length aO,.int .i64 (((rd_T48 l0 a1).f2).length : Int)] (by rfl) rfl rfl Z25 ?_
             with_reducible refine (spec_validOns.calls eI _ _ l2_5 (((rd_T48 l0 a1).f2).length : Int) mP _ ?s1 ?s2 nE.out).mono ?_
             (case s1 => repeat (first | exact (Kd.C_below fK.out (Z3 aE.out)) | (with_reducible refine Kd.C_alloc ?_ _) | (with_reducible refine Kd.C_drewN ?_ _) | (with_reducible refine Kd.C_drew ?_)))
             (case s2 => exact fL.out)
             rintro e nH ⟨rfl,hb⟩
             refine ⟨_,rfl,?_⟩
             have bQ:=A_ (bb (Z1 aA.out) hb);have bR:=A_ (bst (Z3 aE.out) hb);clear aA HB;have aA:=bQ;have HB:=bR;clear bQ bR;(try clear hb);(try clear nI);(try clear hk);(try clear hi)
             refine hK.out _ _ (D_7_ aA.out ⟨(ZC HB.out a9 :),(ZC HB.out a8 :),(ZC HB.out a7 :),(ZC HB.out a6 :),(ZC HB.out a5 :),(ZC HB.out a4 :),(ZC HB.out a3 :),(ZC HB.out a2 :),(ZC HB.out a0 :),(ZC HB.out aZ :)⟩) (fun hHeld => ?_)
             clear hK K
             refine norm_ (a':=?_) ?_ ?_
             rotate_left
             ·show Act.put _ (some 76) _ = _
              simp only [Act.put,List.setIfInBounds_toArray,List.set_cons_zero,List.set_cons_succ,i64_w,i32_w]
              rfl
             refine pU 27 77 M142 ?_;refine pU 28 6 M143 ?_
             refine done_ (done_of HT_.out (by kernel_rfl)) ?_
             try go_wp2
             go_ret
             exact ⟨Z12,Z3 aE.out⟩
            ·rw [if_neg j5] at H
             exact absurd H (by simp)
           ·rw [if_neg j4] at H
            exact absurd H (by simp)
          ·replace j3:=Bool.eq_false_iff.mpr j3
           subst j3;rw [if_neg (show ¬ (false = true) by decide)] at H;obtain rfl:=Option.some.inj H
           try go_wp2
           have bQ:=A_ (blk_drew aA.out);have bR:=A_ (below_drew1 HB.out);clear aA HB;have aA:=bQ;have HB:=bR;clear bQ bR
           refine start_ (n:=29) (S:=fun w' => P_7 w' aC (.int .i64 aD) (.int .i64 aB) (.slice aL aF.length aM) (.slice bK aI.length bL) (.slice bM aJ.length bN) (.slice aN l2_5.length aO) (.slice bO aK.length bP)) (ds:=[]) M118 (by kernel_rfl) rfl rfl (D_7 aA.out) (fun hHeld => ?_);refine with_tabW spec_validHead.tab9 spec_validHead.bits9 (fun HT_ HW_ => ?_)
           generalize wc.drew = nJ at aA HB hHeld ⊢;refine pU 0 50 M119 ?_;refine tU 1 51 M120 ?_ (y:=Z60)
           refine oU 2 (some 52) M121 (fun K hK => ?_)
           refine goes_ Try.func17 (by kernel_rfl) rfl #[.int .i64 aB,.int .i64 0,.int .i64 4] (by rfl) rfl rfl Z25 ?_
           with_reducible refine (spec_inRange.calls aB 0 4 true _ jZ.out).mono ?_
           rintro e w' ⟨rfl,⟨nd,rfl⟩⟩
           refine ⟨_,rfl,?_⟩
           refine hK.out _ _ (D_7 aA.out) (fun hHeld => ?_)
           clear hK K
           refine norm_ (a':=?_) ?_ ?_
           rotate_left;(·exact Z67);refine pU 3 53 M122 ?_;refine pU 4 54 M123 ?_;refine pU 7 57 M124 ?_;refine tU 5 55 M125 ?_ (y:=Z60);refine pU 6 56 M126 ?_;refine tU 8 58 M127 ?_ (y:=Z60);refine pU 9 59 M128 ?_;refine pU 10 60 M129 ?_;refine pU 11 61 M130 ?_;refine pU 12 62 M131 ?_;refine pU 13 63 M132 ?_;refine tU 14 64 M133 ?_ (y:=Z60)
           refine oU 15 (some 65) M134 (fun K hK => ?_)
           refine goes_ Try.func51 (by kernel_rfl) rfl #[.slice aL aF.length aM] (by rfl) rfl rfl Z25 ?_
           with_reducible refine (spec_validNames.calls eI _ _ aF false _ ?s1 ?s2 m2.out).mono ?_
           (case s1 => repeat (first | exact (Kd.C_below eC.out (Z3 aE.out)) | (with_reducible refine Kd.C_alloc ?_ _) | (with_reducible refine Kd.C_drewN ?_ _) | (with_reducible refine Kd.C_drew ?_)))
           (case s2 => exact eD.out)
           rintro e w' ⟨rfl,⟨nd,rfl⟩⟩
           refine ⟨_,rfl,?_⟩
           refine hK.out _ _ (D_7 aA.out) (fun hHeld => ?_)
           clear hK K
           refine norm_ (a':=?_) ?_ ?_
           rotate_left
           ·show Act.put _ (some 65) _ = _
            simp only [Act.put,List.setIfInBounds_toArray,List.set_cons_zero,List.set_cons_succ,i64_w,i32_w]
            rfl
           refine pU 16 66 M135 ?_;refine pU 17 67 M136 ?_;refine pN 18 68 M137 ?_;refine pN 19 69 M144 ?_;refine pN 20 70 M145 ?_;refine pN 21 71 M146 ?_;refine pN 22 72 M147 ?_;refine pN 23 73 M138 ?_;refine pN 24 74 M139 ?_;refine pN 25 75 M140 ?_;refine pN 26 76 M141 ?_;refine pU 27 77 M142 ?_;refine pU 28 6 M143 ?_
           refine done_ (done_of HT_.out (by kernel_rfl)) ?_
           try go_wp2
           go_ret
           exact ⟨Z12,Z3 aE.out⟩
         ·rw [if_neg cZ] at H
          have f8 : ((aI.length : Int) == (aF.length : Int)) = false:=beq_eq_false_iff_ne.mpr cZ;have f9 : ((aI.length : Int) != (aF.length : Int)) = true:=bne_iff_ne.mpr cZ
          have gA : (aI.length == aF.length) = false:=by first | simpa using cZ | (simp at cZ ⊢;omega)
          obtain rfl:=Option.some.inj H
          try go_wp2
          have bQ:=A_ (blk_drew aA.out);have bR:=A_ (below_drew1 HB.out);clear aA HB;have aA:=bQ;have HB:=bR;clear bQ bR
          refine start_ (n:=29) (S:=fun w' => P_7 w' aC (.int .i64 aD) (.int .i64 aB) (.slice aL aF.length aM) (.slice bK aI.length bL) (.slice bM aJ.length bN) (.slice aN l2_5.length aO) (.slice bO aK.length bP)) (ds:=[]) M118 (by kernel_rfl) rfl rfl (D_7 aA.out) (fun hHeld => ?_);refine with_tabW spec_validHead.tab9 spec_validHead.bits9 (fun HT_ HW_ => ?_)
          generalize wc.drew = nK at aA HB hHeld ⊢;refine pU 0 50 M119 ?_;refine tU 1 51 M120 ?_ (y:=Z60)
          refine oU 2 (some 52) M121 (fun K hK => ?_)
          refine goes_ Try.func17 (by kernel_rfl) rfl #[.int .i64 aB,.int .i64 0,.int .i64 4] (by rfl) rfl rfl Z25 ?_
          with_reducible refine (spec_inRange.calls aB 0 4 true _ jZ.out).mono ?_
          rintro e w' ⟨rfl,⟨nd,rfl⟩⟩
          refine ⟨_,rfl,?_⟩
          refine hK.out _ _ (D_7 aA.out) (fun hHeld => ?_)
          clear hK K
          refine norm_ (a':=?_) ?_ ?_
          rotate_left;(·exact Z67);refine pU 3 53 M122 ?_;refine pU 4 54 M123 ?_;refine pU 7 57 M124 ?_;refine tU 5 55 M125 ?_ (y:=Z60);refine pU 6 56 M126 ?_;refine tU 8 58 M127 ?_ (y:=Z60);refine pU 9 59 M128 ?_;refine pU 10 60 M129 ?_;refine pU 11 61 M130 ?_;refine pU 12 62 M131 ?_;refine pN 13 63 M132 ?_;refine pN 14 64 M133 ?_;refine pN 15 65 M134 ?_;refine pU 16 66 M135 ?_;refine pU 17 67 M136 ?_;refine pN 18 68 M137 ?_;refine pN 19 69 M144 ?_;refine pN 20 70 M145 ?_;refine pN 21 71 M146 ?_;refine pN 22 72 M147 ?_;refine pN 23 73 M138 ?_;refine pN 24 74 M139 ?_;refine pN 25 75 M140 ?_;refine pN 26 76 M141 ?_;refine pU 27 77 M142 ?_;refine pU 28 6 M143 ?_
          refine done_ (done_of HT_.out (by kernel_rfl)) ?_
          try go_wp2
          go_ret
          exact ⟨Z12,Z3 aE.out⟩
        ·replace j2:=Bool.eq_false_iff.mpr j2
         subst j2;rw [if_neg (show ¬ (false = true) by decide)] at H;obtain rfl:=Option.some.inj H
         try go_wp2
         have bQ:=A_ (blk_drew aA.out);have bR:=A_ (below_drew1 HB.out);clear aA HB;have aA:=bQ;have HB:=bR;clear bQ bR
         refine start_ (n:=29) (S:=fun w' => P_7 w' aC (.int .i64 aD) (.int .i64 aB) (.slice aL aF.length aM) (.slice bK aI.length bL) (.slice bM aJ.length bN) (.slice aN l2_5.length aO) (.slice bO aK.length bP)) (ds:=[]) M118 (by kernel_rfl) rfl rfl (D_7 aA.out) (fun hHeld => ?_);refine with_tabW spec_validHead.tab9 spec_validHead.bits9 (fun HT_ HW_ => ?_)
         generalize wc.drew = nL at aA HB hHeld ⊢;refine pU 0 50 M119 ?_;refine tU 1 51 M120 ?_ (y:=Z60)
         refine oU 2 (some 52) M121 (fun K hK => ?_)
         refine goes_ Try.func17 (by kernel_rfl) rfl #[.int .i64 aB,.int .i64 0,.int .i64 4] (by rfl) rfl rfl Z25 ?_
         with_reducible refine (spec_inRange.calls aB 0 4 false _ jZ.out).mono ?_
         rintro e w' ⟨rfl,⟨nd,rfl⟩⟩
         refine ⟨_,rfl,?_⟩
         refine hK.out _ _ (D_7 aA.out) (fun hHeld => ?_)
         clear hK K
         refine norm_ (a':=?_) ?_ ?_
         rotate_left;(·exact Z67);refine pU 3 53 M122 ?_;refine pN 4 54 M123 ?_;refine pN 5 55 #[T,T,T,T,T,T,F,F,F,F,F,F,F,F,F,F,F,F,F,F,F,F,F,F,F,F,F,F,F] ?_;refine pN 6 56 #[T,T,T,T,T,T,T,F,F,F,F,F,F,F,F,F,F,F,F,F,F,F,F,F,F,F,F,F,F] ?_;refine pN 7 57 M126 ?_;refine pN 8 58 M127 ?_;refine pN 9 59 M128 ?_;refine pN 10 60 M129 ?_;refine pU 11 61 M130 ?_;refine pU 12 62 M131 ?_;refine pN 13 63 M132 ?_;refine pN 14 64 M133 ?_;refine pN 15 65 M134 ?_;refine pU 16 66 M135 ?_;refine pU 17 67 M136 ?_;refine pN 18 68 M137 ?_;refine pN 19 69 M144 ?_;refine pN 20 70 M145 ?_;refine pN 21 71 M146 ?_;refine pN 22 72 M147 ?_;refine pN 23 73 M138 ?_;refine pN 24 74 M139 ?_;refine pN 25 75 M140 ?_;refine pN 26 76 M141 ?_;refine pU 27 77 M142 ?_;refine pU 28 6 M143 ?_
         refine done_ (done_of HT_.out (by kernel_rfl)) ?_
         try go_wp2
         go_ret
         exact ⟨Z12,Z3 aE.out⟩
       ·rw [if_neg eK] at H
        have fY:=e_f eK;have fZ:=n_t eK
        by_cases e1 : aD = 4
        ·rw [if_pos e1] at H
         have gD:=e_t e1;have gE:=n_f e1;clear e1;replace H:=bS H;obtain ⟨mR,gF,H⟩:=H
         try dsimp only at H
         have m5:=A_ gF;clear gF
         by_cases kD : mR = true
         ·subst kD
          rw [if_pos rfl] at H
          by_cases kE : 0 ≤ aB
          ·rw [if_pos kE] at H
           have m6:=dt kE;clear kE
           by_cases kF : aB < (l0.length : Int)
           ·rw [if_pos kF] at H
            have m7:=dt kF;clear kF;obtain rfl:=Option.some.inj H
            try go_wp2
            have bQ:=A_ (blk_drew aA.out);have bR:=A_ (below_drew1 HB.out);clear aA HB;have aA:=bQ;have HB:=bR;clear bQ bR;have e2 : 0 ≤ (aB : Int):=odt;have e3 : aB < (l0.length : Int):=odt;obtain ⟨aH,e4,e5,e6,e7,e8,e9,fA,fB,fC,fD,fE,fF,fG,fH,mS,bA,bB,bC,bD,bE,bF,bG,bH,bI,bJ,cA,cB,cC,cD,cE,cF,cG,cH,cI,cJ,cK,cL,cM,cN⟩:=at_T48 mV.out aB e2 e3;have cO:=bJ;have cP:=bI;have cQ:=bH;have cR:=bG;have cS:=bF;have cT:=bE;have cU:=bD;have cV:=bC;have cW:=bB;have cX:=bA;cases mS;replace bA:=ZC HB.out bA;replace bB:=ZC HB.out bB;replace bC:=ZC HB.out bC;replace bD:=ZC HB.out bD;replace bE:=ZC HB.out bE;replace bF:=ZC HB.out bF;replace bG:=ZC HB.out bG;replace bH:=ZC HB.out bH;replace bI:=ZC HB.out bI;replace bJ:=ZC HB.out bJ;have dV:=A_ cB;have kG:=A_ cA;clear cB cA;have dW:=A_ cD;have kH:=A_ cC;clear cD cC;have dX:=A_ cF;have kI:=A_ cE;clear cF cE;have dY:=A_ cH
            have kJ:=A_ cG;clear cH cG;have dZ:=A_ cJ;have kK:=A_ cI;clear cJ cI;have d0:=A_ cL;have kL:=A_ cK;clear cL cK;have d1:=A_ cN;have kM:=A_ cM;clear cN cM;replace e2:=eq_true e2;replace e3:=eq_true e3
            refine start_ (n:=21) (S:=fun w' => P_7_ w' aC (.int .i64 aD) (.int .i64 aB) (.slice aL aF.length aM) (.slice bK aI.length bL) (.slice bM aJ.length bN) (.slice aN l2_5.length aO) (.slice bO aK.length bP) (R_10 w' (aH.add ((aB).toNat * 10)) (.int .i64 ((rd_T48 l0 aB).f0)) (.slice e4 ((rd_T48 l0 aB).f1).length e5) (.slice e6 ((rd_T48 l0 aB).f2).length e7) (.int .i64 ((rd_T48 l0 aB).f3.f0)) (.int .i64 ((rd_T48 l0 aB).f3.f1)) (.slice e8 ((rd_T48 l0 aB).f3.f2).length e9) (.slice fA ((rd_T48 l0 aB).f3.f3).length fB) (.slice fC ((rd_T48 l0 aB).f3.f4).length fD) (.slice fE ((rd_T48 l0 aB).f3.f5).length fF) (.slice fG ((rd_T48 l0 aB).f3.f6).length fH))) (ds:=[]) M148 (by kernel_rfl) rfl rfl (D_7_ aA.out ⟨(ZC HB.out cX :),(ZC HB.out cW :),(ZC HB.out cV :),(ZC HB.out cU :),(ZC HB.out cT :),(ZC HB.out cS :),(ZC HB.out cR :),(ZC HB.out cQ :),(ZC HB.out cP :),(ZC HB.out cO :)⟩) (fun hHeld => ?_);refine with_tabW spec_validHead.tab11 spec_validHead.bits11 (fun HT_ HW_ => ?_)
            generalize wc.drew = nM at aA HB dV dW dX dY dZ d0 d1 bA bB bC bD bE bF bG bH bI bJ hHeld ⊢;refine pU 0 80 M149 ?_;refine pU 2 82 M150 ?_;refine pU 3 83 M151 ?_;refine pU 4 84 M152 ?_;refine pU 5 85 M153 ?_;refine pU 6 86 M154 ?_;refine tU 1 81 M155 ?_ (y:=Z39)
            refine oU 7 (some 87) M156 (fun K hK => ?_)
            refine goes_ Try.func17 (by kernel_rfl) rfl #[.int .i64 aB,.int .i64 (wrap64 (a1 + 1)),.int .i64 (wrap64 ((l0.length : Int) - 1))] (by rfl) rfl rfl Z25 ?_
            with_reducible refine (spec_inRange.calls aB (wrap64 (a1 + 1)) (wrap64 ((l0.length : Int) - 1)) true _ m5.out).mono ?_
            rintro e w' ⟨rfl,⟨nd,rfl⟩⟩
            refine ⟨_,rfl,?_⟩
            refine hK.out _ _ (D_7_ aA.out ⟨(ZC HB.out cX :),(ZC HB.out cW :),(ZC HB.out cV :),(ZC HB.out cU :),(ZC HB.out cT :),(ZC HB.out cS :),(ZC HB.out cR :),(ZC HB.out cQ :),(ZC HB.out cP :),(ZC HB.out cO :)⟩) (fun hHeld => ?_)
            clear hK K
            refine norm_ (a':=?_) ?_ ?_
            rotate_left
            ·show Act.put _ (some 87) _ = _
             simp only [Act.put,List.setIfInBounds_toArray,List.set_cons_zero,List.set_cons_succ,i64_w,i32_w]
             rfl
            refine pU 8 88 M157 ?_;refine pU 9 89 M158 ?_;refine pU 12 92 #[T,T,T,T,T,T,T,T,T,T,F,F,T,F,F,F,F,F,F,F,F] ?_;refine pU 13 93 #[T,T,T,T,T,T,T,T,T,T,F,F,T,T,F,F,F,F,F,F,F] ?_;refine tU 10 90 #[T,T,T,T,T,T,T,T,T,T,T,F,T,T,F,F,F,F,F,F,F] ?_ (y:=Z39);refine pU 11 91 M159 ?_;refine tU 14 94 M160 ?_ (y:=Z39);refine pU 15 95 M161 ?_;refine pU 16 96 M162 ?_;refine tU 17 97 M163 ?_ (y:=Z39);refine pU 18 98 M164 ?_;refine pU 19 99 M165 ?_;refine pU 20 6 M166 ?_
            refine done_ (done_of HT_.out (by kernel_rfl)) ?_
            try go_wp2
            go_ret
            exact ⟨Z12,Z3 aE.out⟩
           ·rw [if_neg kF] at H
            exact absurd H (by simp)
          ·rw [if_neg kE] at H
           exact absurd H (by simp)
         ·replace kD:=Bool.eq_false_iff.mpr kD
          subst kD;rw [if_neg (show ¬ (false = true) by decide)] at H;obtain rfl:=Option.some.inj H
          try go_wp2
          have bQ:=A_ (blk_drew aA.out);have bR:=A_ (below_drew1 HB.out);clear aA HB;have aA:=bQ;have HB:=bR;clear bQ bR
          refine start_ (n:=21) (S:=fun w' => P_7 w' aC (.int .i64 aD) (.int .i64 aB) (.slice aL aF.length aM) (.slice bK aI.length bL) (.slice bM aJ.length bN) (.slice aN l2_5.length aO) (.slice bO aK.length bP)) (ds:=[]) M148 (by kernel_rfl) rfl rfl (D_7 aA.out) (fun hHeld => ?_);refine with_tabW spec_validHead.tab11 spec_validHead.bits11 (fun HT_ HW_ => ?_)
          generalize wc.drew = nN at aA HB hHeld ⊢;refine pU 0 80 M149 ?_;refine pU 2 82 M150 ?_;refine pU 3 83 M151 ?_;refine pU 4 84 M152 ?_;refine pU 5 85 M153 ?_;refine pU 6 86 M154 ?_;refine tU 1 81 M155 ?_ (y:=Z60)
          refine oU 7 (some 87) M156 (fun K hK => ?_)
          refine goes_ Try.func17 (by kernel_rfl) rfl #[.int .i64 aB,.int .i64 (wrap64 (a1 + 1)),.int .i64 (wrap64 ((l0.length : Int) - 1))] (by rfl) rfl rfl Z25 ?_
          with_reducible refine (spec_inRange.calls aB (wrap64 (a1 + 1)) (wrap64 ((l0.length : Int) - 1)) false _ m5.out).mono ?_
          rintro e w' ⟨rfl,⟨nd,rfl⟩⟩
          refine ⟨_,rfl,?_⟩
          refine hK.out _ _ (D_7 aA.out) (fun hHeld => ?_)
          clear hK K
          refine norm_ (a':=?_) ?_ ?_
          rotate_left
          ·show Act.put _ (some 87) _ = _
           simp only [Act.put,List.setIfInBounds_toArray,List.set_cons_zero,List.set_cons_succ,i64_w,i32_w]
           rfl
          refine pU 8 88 M157 ?_;refine pN 9 89 M158 ?_;refine pN 10 90 #[T,T,T,T,T,T,T,T,T,T,T,F,F,F,F,F,F,F,F,F,F] ?_;refine pN 11 91 #[T,T,T,T,T,T,T,T,T,T,T,T,F,F,F,F,F,F,F,F,F] ?_;refine pN 12 92 #[T,T,T,T,T,T,T,T,T,T,T,T,T,F,F,F,F,F,F,F,F] ?_;refine pN 13 93 M159 ?_;refine pN 14 94 M160 ?_;refine pN 15 95 M161 ?_;refine pN 16 96 M162 ?_;refine pN 17 97 M163 ?_;refine pN 18 98 M164 ?_;refine pU 19 99 M165 ?_;refine pU 20 6 M166 ?_
          refine done_ (done_of HT_.out (by kernel_rfl)) ?_
          try go_wp2
          go_ret
          exact ⟨Z12,Z3 aE.out⟩
        ·rw [if_neg e1] at H
         have gD:=e_f e1;have gE:=n_t e1
         by_cases fI : aD = 5
         ·rw [if_pos fI] at H
          have gG:=e_t fI;have gH:=n_f fI;clear fI;replace H:=bS H;obtain ⟨mT,gI,H⟩:=H
          try dsimp only at H
          have m8:=A_ gI;clear gI
          by_cases kN : mT = true
          ·subst kN
           rw [if_pos rfl] at H;obtain rfl:=Option.some.inj H;obtain ⟨kO,kP,kQ,kR,kS,kT,kU,kV,kW,kX,kY,kZ,k0,k1⟩:=C7 aA.out
           go_wp2_with (first | ((with_reducible refine gate_callee (f:=17) rfl ?_);refine gL 104 Try.func17 #[.int .i64 aB,.int .i64 0,.int .i64 1] ?_;(with_reducible refine (spec_inRange.calls aB 0 1 true _ m8.out).mono ?_);rintro e w' ⟨rfl,⟨nd,rfl⟩⟩;refine ⟨_,rfl,?_⟩))
           go_ret
           exact ⟨Z12,Z3 aE.out⟩
          ·replace kN:=Bool.eq_false_iff.mpr kN
           subst kN;rw [if_neg (show ¬ (false = true) by decide)] at H;obtain rfl:=Option.some.inj H;obtain ⟨k2,k3,k4,k5,k6,k7,k8,k9,lA,lB,lC,lD,lE,lF⟩:=C7 aA.out
           go_wp2_with (first | ((with_reducible refine gate_callee (f:=17) rfl ?_);refine gL 104 Try.func17 #[.int .i64 aB,.int .i64 0,.int .i64 1] ?_;(with_reducible refine (spec_inRange.calls aB 0 1 false _ m8.out).mono ?_);rintro e w' ⟨rfl,⟨nd,rfl⟩⟩;refine ⟨_,rfl,?_⟩))
           go_ret
           exact ⟨Z12,Z3 aE.out⟩
         ·rw [if_neg fI] at H
          have gG:=e_f fI;have gH:=n_t fI;obtain rfl:=Option.some.inj H
          go_wp2
          go_ret
          exact ⟨Z12,Z3 aE.out⟩
end Go.Proofs.Ytmgdjmeoljepgaa.PFnProgBelow
