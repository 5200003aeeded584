/- Walks (lines of the print; no condition). -/
import Derived.Test.YtmgdjmeoljepgaaZFnProgBelowQFnProgBelowx16
namespace Go.Proofs.Ytmgdjmeoljepgaa.PFnProgBelow
open Go.RowKit Go.Proofs.YtmgdjmeoljepgaaW.PrintWords Go.Proofs.YtmgdjmeoljepgaaW.PrintLast Go.Proofs.YtmgdjmeoljepgaaW.PrintMore
attribute [local go_sem] max2_int min2_int max_two min_two max_three min_three max_four min_four
set_option linter.unusedVariables false
set_option linter.unusedSimpArgs false
attribute [local go_sem high] eqA67
mutual
def impl_formFits.l0 : Nat → List (S70) → Int → Int → Int → Int → List (S70) → Int → Int → Option (Bool)
 | 0,_,_,_,_,_,_,_,_ => none
 | k + 1,x0,x1,x2,x3,x9,aD,aE,aC => if aC < aE then (if 0 ≤ aC then (if aC < (aD.length : Int) then (if ((rd_T70 aD aC).f0) = 0 then (impl_formFits.j1 k x0 x1 x2 x3 x9 aD aE aC false ((rd_T70 aD aC).f0) ((rd_T70 aD aC).f1) ((rd_T70 aD aC).f2.f0) ((rd_T70 aD aC).f2.f1) ((rd_T70 aD aC).f2.f2)) else (impl_formFits.j1 k x0 x1 x2 x3 x9 aD aE aC (!(((rd_T70 aD aC).f2.f0) == 0) || (!(((rd_T70 aD aC).f2.f1) == 0) || (!((((rd_T70 aD aC).f2.f2).toList) == ([] : List UInt8))))) ((rd_T70 aD aC).f0) ((rd_T70 aD aC).f1) ((rd_T70 aD aC).f2.f0) ((rd_T70 aD aC).f2.f1) ((rd_T70 aD aC).f2.f2))) else (none)) else (none)) else (if x9 = 1 then (some (decide ((x0.length : Int) ≤ 9))) else (some false))
def impl_formFits.j1 : Nat → List (S70) → Int → Int → Int → Int → List (S70) → Int → Int → Bool → Int → Int → Int → Int → ByteArray → Option (Bool)
 | 0,_,_,_,_,_,_,_,_,_,_,_,_,_,_ => none
 | k + 1,x0,x1,x2,x3,x9,aD,aE,aC,aO,aA,aB,aF,aG,aH => if aO = true then (some false) else (if aA = 0 then (if aB = 0 then ((impl_ValOk.f k aF aG aH).bind fun aI => (if aI = true then (if x9 < 0 then (some false) else (impl_formFits.l0 k x0 x1 x2 x3 (wrap64 (x9 + (1 - 0))) aD aE (wrap64 (aC + 1)))) else (some false))) else (some false)) else (if aA = 1 then ((impl_within.f aB 0 (wrap64 (x1 - 1))).bind fun aJ => (if aJ = true then (if x9 < 0 then (some false) else (impl_formFits.l0 k x0 x1 x2 x3 (wrap64 (x9 + (1 - 0))) aD aE (wrap64 (aC + 1)))) else (some false))) else (if aA = 2 then ((impl_within.f aB 0 (wrap64 (x2 - 1))).bind fun aK => (if aK = true then (if x9 < 0 then (some false) else (impl_formFits.l0 k x0 x1 x2 x3 (wrap64 (x9 + (1 - 0))) aD aE (wrap64 (aC + 1)))) else (some false))) else (if aA = 3 then ((impl_within.f aB 0 (wrap64 (x3 - 1))).bind fun aL => (if aL = true then (if x9 < 0 then (some false) else (impl_formFits.l0 k x0 x1 x2 x3 (wrap64 (x9 + (1 - 0))) aD aE (wrap64 (aC + 1)))) else (some false))) else (if aA = 4 then ((impl_within.f aB 0 1).bind fun aM => (if aM = true then (if x9 < 0 then (some false) else (impl_formFits.l0 k x0 x1 x2 x3 (wrap64 (x9 + (1 - 0))) aD aE (wrap64 (aC + 1)))) else (some false))) else (if aA = 5 then ((impl_within.f aB 0 6).bind fun aN => (if aN = true then (if x9 < 2 then (some false) else (impl_formFits.l0 k x0 x1 x2 x3 (wrap64 (x9 + (1 - 2))) aD aE (wrap64 (aC + 1)))) else (some false))) else (if aA = 6 then (if aB = 0 then (if x9 < 3 then (some false) else (impl_formFits.l0 k x0 x1 x2 x3 (wrap64 (x9 + (1 - 3))) aD aE (wrap64 (aC + 1)))) else (some false)) else (some false))))))))
end
def impl_formFits.f (k : Nat) (l0 : List (S70)) (a1 : Int) (a2 : Int) (a3 : Int) : Option (Bool):=impl_formFits.l0 k l0 a1 a2 a3 0 l0 (l0.length : Int) 0
set_option maxHeartbeats 8000000 in
set_option maxRecDepth 100000 in
theorem impl_formFits.calls (k : Nat) (A0 : Option Addr) (c0 : Nat) (l0 : List (S70)) (a1 : Int) (a2 : Int) (a3 : Int) (r : Bool) (w : World) (lT : Kd.C k70 w A0 l0.length l0) (hc0 : l0.length ≤ c0) (h : impl_formFits.f k l0 a1 a2 a3 = some r) :
  Calls Try.prog 47 #[.slice A0 l0.length c0,.int .i64 a1,.int .i64 a2,.int .i64 a3] w fun e w' => e = .returned (.bool r) ∧ Below w.heap.size w w':=by
 have lV:=Try.underlying70;have lW:=Try.underlying67;have lX:=A_ lT;have mA:=A_ hc0;clear lT hc0;have HB:=A_ (Below.refl w.heap.size w);have H:=h;unfold impl_formFits.f at H;clear h;have H':=A_ H;clear H
 go_enter Try.func47,Try.ntmps47
 go_wp2
 go_loopg [9,16] k (fun kq v9 lY w' => ∃ (aD : Int) (aA : Int),v9 = .int .i64 aD ∧ lY = .int .i64 aA ∧ Aside0 (impl_formFits.l0 kq l0 a1 a2 a3 aD l0 (l0.length : Int) aA = some r) ∧ Aside0 (kq ≤ k) ∧ Aside0 (Below w.heap.size w w'))
 case atStart => exact ⟨(0),(0),Z22,Z22,H',⟨Nat.le_refl _⟩,⟨Z2⟩⟩
 case round =>
  clear H';obtain ⟨aD,aA,rfl,rfl,HA,aK,HB⟩:=hrel
  cases gk with
  | zero => exact absurd HA.out (by simp [impl_formFits.l0])
  | succ k1 =>
   have H:=HA.out;clear HA;simp only [impl_formFits.l0] at H
   by_cases c5 : aA < (l0.length : Int)
   ·rw [if_pos c5] at H
    have bL:=dt c5;clear c5
    by_cases c6 : 0 ≤ aA
    ·rw [if_pos c6] at H
     have lD:=dt c6;clear c6
     by_cases c7 : aA < (l0.length : Int)
     ·rw [if_pos c7] at H
      have lE:=dt c7;clear c7;have lF:=A_ H;clear H;have aO : 0 ≤ (aA : Int):=odt;have aP : aA < (l0.length : Int):=odt;obtain ⟨lU,lG,aE,aF,aG,aH,aI⟩:=at_T70 lX.out aA aO aP;cases lG;replace aE:=ZC HB.out aE;replace aF:=ZC HB.out aF;replace aG:=ZC HB.out aG;replace aH:=ZC HB.out aH;replace aI:=ZC HB.out aI;replace aO:=eq_true aO;replace aP:=eq_true aP
      go_upto_region 5 with (first | ((with_reducible refine gate_dst (N:=11) rfl ?_);(try (refine gate_guard (by rfl) ?_;dsimp only));refine be (cs:=#[.int .i64 0,.int .i64 0,.int .i64 0,.int .i64 0,.string (⟨#[]⟩ : ByteArray)]) (t:=70) ?_;intro bM hg w9 hbox hb;have aB:=A_ hbox;have bN:=A_ (gl hg (bz Z2));have aC:=bN;replace HB:=A_ (bst Z2 hb);clear hb hbox hg;obtain ⟨aQ,aR,aS,aT,aU,aV,aW,aX,aY,aZ⟩:=C5 aB.out))
      (try simp only [Act.put,List.setIfInBounds_toArray,List.set_cons_zero,List.set_cons_succ])
      go_cut [28] (fun lZ wc => ∃ (kq : Nat) (aL : Bool),lZ = .bool aL ∧ Aside0 (impl_formFits.j1 kq l0 a1 a2 a3 aD l0 (l0.length : Int) aA aL ((rd_T70 l0 aA).f0) ((rd_T70 l0 aA).f1) ((rd_T70 l0 aA).f2.f0) ((rd_T70 l0 aA).f2.f1) ((rd_T70 l0 aA).f2.f2) = some r) ∧ Aside0 (kq ≤ k1) ∧ Aside0 (wc.heap[bM]? = some (.cells #[.int .i64 ((rd_T70 l0 aA).f0),.int .i64 ((rd_T70 l0 aA).f1),.int .i64 ((rd_T70 l0 aA).f2.f0),.int .i64 ((rd_T70 l0 aA).f2.f1),.string ((rd_T70 l0 aA).f2.f2)] 70 (0,0))) ∧ Aside0 (Below w.heap.size w wc))
      case first =>
       have H:=lF.out;clear lF
       by_cases a0 : ((rd_T70 l0 aA).f0) = 0
       ·rw [if_pos a0] at H
        have aJ : (((rd_T70 l0 aA).f0) == 0) = true:=beq_iff_eq.mpr a0;have bO : (((rd_T70 l0 aA).f0) != 0) = false:=bne_eq_false_iff_eq.mpr a0;clear a0;(first | rw [aJ] | (simp only [i64_w,i32_w];rw [aJ]) | skip);have H':=A_ H;clear H;obtain ⟨cN,cO,cP,cQ,cR,cS,cT,cU,cV,cW⟩:=C5 aB.out
        go_wp2
        go_meet
        case rel => exact ⟨_,(false),Z22,H',⟨by have:=aK.out;first | omega | exact Nat.le_refl _⟩,⟨bp0 aB.out⟩,⟨Z3 aC.out⟩⟩
       ·rw [if_neg a0] at H
        have aJ : (((rd_T70 l0 aA).f0) == 0) = false:=beq_eq_false_iff_ne.mpr a0;have bO : (((rd_T70 l0 aA).f0) != 0) = true:=bne_iff_ne.mpr a0;(first | rw [aJ] | (simp only [i64_w,i32_w];rw [aJ]) | skip);have H':=A_ H;clear H;obtain ⟨cX,cY,cZ,dA,dB,dC,dD,dE,dF,dG⟩:=C5 aB.out
        go_wp2
        go_meet
        case rel => exact ⟨_,((!(((rd_T70 l0 aA).f2.f0) == 0) || (!(((rd_T70 l0 aA).f2.f1) == 0) || (!((((rd_T70 l0 aA).f2.f2).toList) == ([] : List UInt8)))))),Z22,H',⟨by have:=aK.out;first | omega | exact Nat.le_refl _⟩,⟨bp0 aB.out⟩,⟨Z3 aC.out⟩⟩
      case rest =>
       clear lF bL lD lE aQ aR aS aT aU aV aW aX aY aZ aE aF aG aH aI aO aP;obtain ⟨kq,aL,rfl,HA,aM,aB,HB⟩:=hcut
       cases kq with
       | zero => exact absurd HA.out (by simp [impl_formFits.j1])
       | succ aN =>
        have H:=HA.out;clear HA;simp only [impl_formFits.j1] at H
        by_cases dH : aL = true
        ·subst dH
         rw [if_pos rfl] at H;obtain rfl:=Option.some.inj H
         go_wp2
         go_ret
         exact ⟨Z12,Z3 aC.out⟩
        ·replace dH:=Bool.eq_false_iff.mpr dH
         subst dH;rw [if_neg (show ¬ (false = true) by decide)] at H
         by_cases a4 : ((rd_T70 l0 aA).f0) = 0
         ·rw [if_pos a4] at H
          have bP : (((rd_T70 l0 aA).f0) == 0) = true:=beq_iff_eq.mpr a4;have bQ : (((rd_T70 l0 aA).f0) != 0) = false:=bne_eq_false_iff_eq.mpr a4;clear a4
          by_cases a5 : ((rd_T70 l0 aA).f1) = 0
          ·rw [if_pos a5] at H
           have bR : (((rd_T70 l0 aA).f1) == 0) = true:=beq_iff_eq.mpr a5;have bT : (((rd_T70 l0 aA).f1) != 0) = false:=bne_eq_false_iff_eq.mpr a5;clear a5;replace H:=bS H;obtain ⟨lH,bU,H⟩:=H
           try dsimp only at H
           have lI:=A_ bU;clear bU
           by_cases dI : lH = true
           ·subst dI
            rw [if_pos rfl] at H
            by_cases bE : aD < 0
            ·rw [if_pos bE] at H
             have bV:=dt bE;clear bE;obtain rfl:=Option.some.inj H;obtain ⟨dJ,dK,dL,dM,dN,dO,dP,dQ,dR,dS⟩:=C5 aB.out
             go_wp2_with (first | (go_at_call 46;(with_reducible refine (impl_ValOk.calls aN ((rd_T70 l0 aA).f2.f0) ((rd_T70 l0 aA).f2.f1) ((rd_T70 l0 aA).f2.f2) true _ lI.out).mono ?_);rintro e mB ⟨rfl,hb⟩;replace aB:=A_ (bb (Z1 aB.out) hb);replace HB:=A_ (bst (Z3 aC.out) hb);(try clear hb)))
             go_ret
             exact ⟨Z12,Z3 aC.out⟩
            ·rw [if_neg bE] at H
             have bV:=df bE;clear bE;have H':=A_ H;clear H;obtain ⟨dT,dU,dV,dW,dX,dY,dZ,d0,d1,d2⟩:=C5 aB.out
             go_wp2_with (first | (go_at_call 46;(with_reducible refine (impl_ValOk.calls aN ((rd_T70 l0 aA).f2.f0) ((rd_T70 l0 aA).f2.f1) ((rd_T70 l0 aA).f2.f2) true _ lI.out).mono ?_);rintro e mC ⟨rfl,hb⟩;replace aB:=A_ (bb (Z1 aB.out) hb);replace HB:=A_ (bst (Z3 aC.out) hb);(try clear hb)))
             go_roundg aN
             case measure => have:=aK.out;have:=aM.out;omega
             case rel => exact ⟨(wrap64 (aD + (1 - 0))),(wrap64 (aA + 1)),Z22,Z22,H',⟨by have:=aK.out;have:=aM.out;omega⟩,⟨Z3 aC.out⟩⟩
           ·replace dI:=Bool.eq_false_iff.mpr dI
            subst dI;rw [if_neg (show ¬ (false = true) by decide)] at H;obtain rfl:=Option.some.inj H;obtain ⟨d3,d4,d5,d6,d7,d8,d9,eA,eB,eC⟩:=C5 aB.out
            go_wp2_with (first | (go_at_call 46;(with_reducible refine (impl_ValOk.calls aN ((rd_T70 l0 aA).f2.f0) ((rd_T70 l0 aA).f2.f1) ((rd_T70 l0 aA).f2.f2) false _ lI.out).mono ?_);rintro e mD ⟨rfl,hb⟩;replace aB:=A_ (bb (Z1 aB.out) hb);replace HB:=A_ (bst (Z3 aC.out) hb);(try clear hb)))
            go_ret
            exact ⟨Z12,Z3 aC.out⟩
          ·rw [if_neg a5] at H
           have bR : (((rd_T70 l0 aA).f1) == 0) = false:=beq_eq_false_iff_ne.mpr a5;have bT : (((rd_T70 l0 aA).f1) != 0) = true:=bne_iff_ne.mpr a5;obtain rfl:=Option.some.inj H;obtain ⟨eD,eE,eF,eG,eH,eI,eJ,eK,eL,eM⟩:=C5 aB.out
           go_wp2
           go_ret
           exact ⟨Z12,Z3 aC.out⟩
         ·rw [if_neg a4] at H
          have bP : (((rd_T70 l0 aA).f0) == 0) = false:=beq_eq_false_iff_ne.mpr a4;have bQ : (((rd_T70 l0 aA).f0) != 0) = true:=bne_iff_ne.mpr a4
          by_cases a6 : ((rd_T70 l0 aA).f0) = 1
          ·rw [if_pos a6] at H
           have bW : (((rd_T70 l0 aA).f0) == 1) = true:=beq_iff_eq.mpr a6;have bX : (((rd_T70 l0 aA).f0) != 1) = false:=bne_eq_false_iff_eq.mpr a6;clear a6;replace H:=bS H;obtain ⟨lJ,bY,H⟩:=H
           try dsimp only at H
           have lK:=A_ bY;clear bY
           by_cases eN : lJ = true
           ·subst eN
            rw [if_pos rfl] at H
            by_cases bF : aD < 0
            ·rw [if_pos bF] at H
             have bZ:=dt bF;clear bF;obtain rfl:=Option.some.inj H;obtain ⟨eO,eP,eQ,eR,eS,eT,eU,eV,eW,eX⟩:=C5 aB.out
             go_wp2_with (first | ((with_reducible refine gate_callee (f:=14) rfl ?_);refine gL 47 Try.func14 #[.int .i64 ((rd_T70 l0 aA).f1),.int .i64 0,.int .i64 (wrap64 (a1 - 1))] ?_;(with_reducible refine (impl_within.calls ((rd_T70 l0 aA).f1) 0 (wrap64 (a1 - 1)) true _ lK.out).mono ?_);rintro e w' ⟨rfl,⟨nd,rfl⟩⟩;refine ⟨_,rfl,?_⟩))
             go_ret
             exact ⟨Z12,Z3 aC.out⟩
            ·rw [if_neg bF] at H
             have bZ:=df bF;clear bF;have H':=A_ H;clear H;obtain ⟨eY,eZ,e0,e1,e2,e3,e4,e5,e6,e7⟩:=C5 aB.out
             go_wp2_with (first | ((with_reducible refine gate_callee (f:=14) rfl ?_);refine gL 47 Try.func14 #[.int .i64 ((rd_T70 l0 aA).f1),.int .i64 0,.int .i64 (wrap64 (a1 - 1))] ?_;(with_reducible refine (impl_within.calls ((rd_T70 l0 aA).f1) 0 (wrap64 (a1 - 1)) true _ lK.out).mono ?_);rintro e w' ⟨rfl,⟨nd,rfl⟩⟩;refine ⟨_,rfl,?_⟩))
             go_roundg aN
             case measure => have:=aK.out;have:=aM.out;omega
             case rel => exact ⟨(wrap64 (aD + (1 - 0))),(wrap64 (aA + 1)),Z22,Z22,H',⟨by have:=aK.out;have:=aM.out;omega⟩,⟨Z3 aC.out⟩⟩
           ·replace eN:=Bool.eq_false_iff.mpr eN
            subst eN;rw [if_neg (show ¬ (false = true) by decide)] at H;obtain rfl:=Option.some.inj H;obtain ⟨e8,e9,fA,fB,fC,fD,fE,fF,fG,fH⟩:=C5 aB.out
            go_wp2_with (first | ((with_reducible refine gate_callee (f:=14) rfl ?_);refine gL 47 Try.func14 #[.int .i64 ((rd_T70 l0 aA).f1),.int .i64 0,.int .i64 (wrap64 (a1 - 1))] ?_;(with_reducible refine (impl_within.calls ((rd_T70 l0 aA).f1) 0 (wrap64 (a1 - 1)) false _ lK.out).mono ?_);rintro e w' ⟨rfl,⟨nd,rfl⟩⟩;refine ⟨_,rfl,?_⟩))
            go_ret
            exact ⟨Z12,Z3 aC.out⟩
          ·rw [if_neg a6] at H
           have bW : (((rd_T70 l0 aA).f0) == 1) = false:=beq_eq_false_iff_ne.mpr a6;have bX : (((rd_T70 l0 aA).f0) != 1) = true:=bne_iff_ne.mpr a6
           by_cases a7 : ((rd_T70 l0 aA).f0) = 2
           ·rw [if_pos a7] at H
            have b0 : (((rd_T70 l0 aA).f0) == 2) = true:=beq_iff_eq.mpr a7;have b1 : (((rd_T70 l0 aA).f0) != 2) = false:=bne_eq_false_iff_eq.mpr a7;clear a7;replace H:=bS H;obtain ⟨lL,b2,H⟩:=H
            try dsimp only at H
            have lM:=A_ b2;clear b2
            by_cases fI : lL = true
            ·subst fI
             rw [if_pos rfl] at H
             by_cases bG : aD < 0
             ·rw [if_pos bG] at H
              have b3:=dt bG;clear bG;obtain rfl:=Option.some.inj H;obtain ⟨fJ,fK,fL,fM,fN,fO,fP,fQ,fR,fS⟩:=C5 aB.out
              go_wp2_with (first | ((with_reducible refine gate_callee (f:=14) rfl ?_);refine gL 54 Try.func14 #[.int .i64 ((rd_T70 l0 aA).f1),.int .i64 0,.int .i64 (wrap64 (a2 - 1))] ?_;(with_reducible refine (impl_within.calls ((rd_T70 l0 aA).f1) 0 (wrap64 (a2 - 1)) true _ lM.out).mono ?_);rintro e w' ⟨rfl,⟨nd,rfl⟩⟩;refine ⟨_,rfl,?_⟩))
              go_ret
              exact ⟨Z12,Z3 aC.out⟩
             ·rw [if_neg bG] at H
              have b3:=df bG;clear bG;have H':=A_ H;clear H;obtain ⟨fT,fU,fV,fW,fX,fY,fZ,f7,f8,f9⟩:=C5 aB.out
              go_wp2_with (first | ((with_reducible refine gate_callee (f:=14) rfl ?_);refine gL 54 Try.func14 #[.int .i64 ((rd_T70 l0 aA).f1),.int .i64 0,.int .i64 (wrap64 (a2 - 1))] ?_;(with_reducible refine (impl_within.calls ((rd_T70 l0 aA).f1) 0 (wrap64 (a2 - 1)) true _ lM.out).mono ?_);rintro e w' ⟨rfl,⟨nd,rfl⟩⟩;refine ⟨_,rfl,?_⟩))
              go_roundg aN
              case measure => have:=aK.out;have:=aM.out;omega
              case rel => exact ⟨(wrap64 (aD + (1 - 0))),(wrap64 (aA + 1)),Z22,Z22,H',⟨by have:=aK.out;have:=aM.out;omega⟩,⟨Z3 aC.out⟩⟩
            ·replace fI:=Bool.eq_false_iff.mpr fI
             subst fI;rw [if_neg (show ¬ (false = true) by decide)] at H;obtain rfl:=Option.some.inj H;obtain ⟨gA,gB,gC,gD,gE,gF,gG,gH,gI,gJ⟩:=C5 aB.out
             go_wp2_with (first | ((with_reducible refine gate_callee (f:=14) rfl ?_);refine gL 54 Try.func14 #[.int .i64 ((rd_T70 l0 aA).f1),.int .i64 0,.int .i64 (wrap64 (a2 - 1))] ?_;(with_reducible refine (impl_within.calls ((rd_T70 l0 aA).f1) 0 (wrap64 (a2 - 1)) false _ lM.out).mono ?_);rintro e w' ⟨rfl,⟨nd,rfl⟩⟩;refine ⟨_,rfl,?_⟩))
             go_ret
             exact ⟨Z12,Z3 aC.out⟩
           ·rw [if_neg a7] at H
            have b0 : (((rd_T70 l0 aA).f0) == 2) = false:=beq_eq_false_iff_ne.mpr a7;have b1 : (((rd_T70 l0 aA).f0) != 2) = true:=bne_iff_ne.mpr a7
            by_cases a8 : ((rd_T70 l0 aA).f0) = 3
            ·rw [if_pos a8] at H
             have b4 : (((rd_T70 l0 aA).f0) == 3) = true:=beq_iff_eq.mpr a8;have b5 : (((rd_T70 l0 aA).f0) != 3) = false:=bne_eq_false_iff_eq.mpr a8;clear a8;replace H:=bS H;obtain ⟨lN,b6,H⟩:=H
             try dsimp only at H
             have lO:=A_ b6;clear b6
             by_cases gK : lN = true
             ·subst gK
              rw [if_pos rfl] at H
              by_cases bH : aD < 0
              ·rw [if_pos bH] at H
               have b7:=dt bH;clear bH;obtain rfl:=Option.some.inj H;obtain ⟨gM,gN,gO,gP,gQ,gR,gS,gT,gU,gV⟩:=C5 aB.out
               go_wp2_with (first | ((with_reducible refine gate_callee (f:=14) rfl ?_);refine gL 61 Try.func14 #[.int .i64 ((rd_T70 l0 aA).f1),.int .i64 0,.int .i64 (wrap64 (a3 - 1))] ?_;(with_reducible refine (impl_within.calls ((rd_T70 l0 aA).f1) 0 (wrap64 (a3 - 1)) true _ lO.out).mono ?_);rintro e w' ⟨rfl,⟨nd,rfl⟩⟩;refine ⟨_,rfl,?_⟩))
               go_ret
               exact ⟨Z12,Z3 aC.out⟩
              ·rw [if_neg bH] at H
               have b7:=df bH;clear bH;have H':=A_ H;clear H;obtain ⟨gW,gX,gY,gZ,hD,hI,hJ,hL,hO,hU⟩:=C5 aB.out
               go_wp2_with (first | ((with_reducible refine gate_callee (f:=14) rfl ?_);refine gL 61 Try.func14 #[.int .i64 ((rd_T70 l0 aA).f1),.int .i64 0,.int .i64 (wrap64 (a3 - 1))] ?_;(with_reducible refine (impl_within.calls ((rd_T70 l0 aA).f1) 0 (wrap64 (a3 - 1)) true _ lO.out).mono ?_);rintro e w' ⟨rfl,⟨nd,rfl⟩⟩;refine ⟨_,rfl,?_⟩))
               go_roundg aN
               case measure => have:=aK.out;have:=aM.out;omega
               case rel => exact ⟨(wrap64 (aD + (1 - 0))),(wrap64 (aA + 1)),Z22,Z22,H',⟨by have:=aK.out;have:=aM.out;omega⟩,⟨Z3 aC.out⟩⟩
             ·replace gK:=Bool.eq_false_iff.mpr gK
              subst gK;rw [if_neg (show ¬ (false = true) by decide)] at H;obtain rfl:=Option.some.inj H;obtain ⟨hV,hX,hY,hZ,iA,iB,iC,iD,iE,iF⟩:=C5 aB.out
              go_wp2_with (first | ((with_reducible refine gate_callee (f:=14) rfl ?_);refine gL 61 Try.func14 #[.int .i64 ((rd_T70 l0 aA).f1),.int .i64 0,.int .i64 (wrap64 (a3 - 1))] ?_;(with_reducible refine (impl_within.calls ((rd_T70 l0 aA).f1) 0 (wrap64 (a3 - 1)) false _ lO.out).mono ?_);rintro e w' ⟨rfl,⟨nd,rfl⟩⟩;refine ⟨_,rfl,?_⟩))
              go_ret
              exact ⟨Z12,Z3 aC.out⟩
            ·rw [if_neg a8] at H
             have b4 : (((rd_T70 l0 aA).f0) == 3) = false:=beq_eq_false_iff_ne.mpr a8;have b5 : (((rd_T70 l0 aA).f0) != 3) = true:=bne_iff_ne.mpr a8
             by_cases a9 : ((rd_T70 l0 aA).f0) = 4
             ·rw [if_pos a9] at H
              have b8 : (((rd_T70 l0 aA).f0) == 4) = true:=beq_iff_eq.mpr a9;have b9 : (((rd_T70 l0 aA).f0) != 4) = false:=bne_eq_false_iff_eq.mpr a9;clear a9;replace H:=bS H;obtain ⟨lP,cA,H⟩:=H
              try dsimp only at H
              have lQ:=A_ cA;clear cA
              by_cases iG : lP = true
              ·subst iG
               rw [if_pos rfl] at H
               by_cases bI : aD < 0
               ·rw [if_pos bI] at H
                have cB:=dt bI;clear bI;obtain rfl:=Option.some.inj H;obtain ⟨iH,iI,iJ,iK,iL,iM,iN,iO,iP,iQ⟩:=C5 aB.out
                go_wp2_with (first | ((with_reducible refine gate_callee (f:=14) rfl ?_);refine gL 66 Try.func14 #[.int .i64 ((rd_T70 l0 aA).f1),.int .i64 0,.int .i64 1] ?_;(with_reducible refine (impl_within.calls ((rd_T70 l0 aA).f1) 0 1 true _ lQ.out).mono ?_);rintro e w' ⟨rfl,⟨nd,rfl⟩⟩;refine ⟨_,rfl,?_⟩))
                go_ret
                exact ⟨Z12,Z3 aC.out⟩
               ·rw [if_neg bI] at H
                have cB:=df bI;clear bI;have H':=A_ H;clear H;obtain ⟨iR,iS,iT,iU,iV,iW,iX,iY,iZ,i1⟩:=C5 aB.out
                go_wp2_with (first | ((with_reducible refine gate_callee (f:=14) rfl ?_);refine gL 66 Try.func14 #[.int .i64 ((rd_T70 l0 aA).f1),.int .i64 0,.int .i64 1] ?_;(with_reducible refine (impl_within.calls ((rd_T70 l0 aA).f1) 0 1 true _ lQ.out).mono ?_);rintro e w' ⟨rfl,⟨nd,rfl⟩⟩;refine ⟨_,rfl,?_⟩))
                go_roundg aN
                case measure => have:=aK.out;have:=aM.out;omega
                case rel => exact ⟨(wrap64 (aD + (1 - 0))),(wrap64 (aA + 1)),Z22,Z22,H',⟨by have:=aK.out;have:=aM.out;omega⟩,⟨Z3 aC.out⟩⟩
              ·replace iG:=Bool.eq_false_iff.mpr iG
               subst iG;rw [if_neg (show ¬ (false = true) by decide)] at H;obtain rfl:=Option.some.inj H;obtain ⟨i2,i3,i4,i5,i6,i7,i8,i9,jA,jB⟩:=C5 aB.out
               go_wp2_with (first | ((with_reducible refine gate_callee (f:=14) rfl ?_);refine gL 66 Try.func14 #[.int .i64 ((rd_T70 l0 aA).f1),.int .i64 0,.int .i64 1] ?_;(with_reducible refine (impl_within.calls ((rd_T70 l0 aA).f1) 0 1 false _ lQ.out).mono ?_);rintro e w' ⟨rfl,⟨nd,rfl⟩⟩;refine ⟨_,rfl,?_⟩))
               go_ret
               exact ⟨Z12,Z3 aC.out⟩
             ·rw [if_neg a9] at H
              have b8 : (((rd_T70 l0 aA).f0) == 4) = false:=beq_eq_false_iff_ne.mpr a9;have b9 : (((rd_T70 l0 aA).f0) != 4) = true:=bne_iff_ne.mpr a9
              by_cases bA : ((rd_T70 l0 aA).f0) = 5
              ·rw [if_pos bA] at H
               have cC : (((rd_T70 l0 aA).f0) == 5) = true:=beq_iff_eq.mpr bA;have cD : (((rd_T70 l0 aA).f0) != 5) = false:=bne_eq_false_iff_eq.mpr bA;clear bA;replace H:=bS H;obtain ⟨lR,cE,H⟩:=H
               try dsimp only at H
               have lS:=A_ cE;clear cE
               by_cases jC : lR = true
               ·subst jC
                rw [if_pos rfl] at H
                by_cases bJ : aD < 2
                ·rw [if_pos bJ] at H
                 have cF:=dt bJ;clear bJ;obtain rfl:=Option.some.inj H;obtain ⟨jD,jE,jF,jG,jH,jI,jJ,jK,jL,jM⟩:=C5 aB.out
                 go_wp2_with (first | ((with_reducible refine gate_callee (f:=14) rfl ?_);refine gL 71 Try.func14 #[.int .i64 ((rd_T70 l0 aA).f1),.int .i64 0,.int .i64 6] ?_;(with_reducible refine (impl_within.calls ((rd_T70 l0 aA).f1) 0 6 true _ lS.out).mono ?_);rintro e w' ⟨rfl,⟨nd,rfl⟩⟩;refine ⟨_,rfl,?_⟩))
                 go_ret
                 exact ⟨Z12,Z3 aC.out⟩
                ·rw [if_neg bJ] at H
                 have cF:=df bJ;clear bJ;have H':=A_ H;clear H;obtain ⟨jN,jO,jP,jQ,jR,jS,jT,jU,jV,jW⟩:=C5 aB.out
                 go_wp2_with (first | ((with_reducible refine gate_callee (f:=14) rfl ?_);refine gL 71 Try.func14 #[.int .i64 ((rd_T70 l0 aA).f1),.int .i64 0,.int .i64 6] ?_;(with_reducible refine (impl_within.calls ((rd_T70 l0 aA).f1) 0 6 true _ lS.out).mono ?_);rintro e w' ⟨rfl,⟨nd,rfl⟩⟩;refine ⟨_,rfl,?_⟩))
                 go_roundg aN
                 case measure => have:=aK.out;have:=aM.out;omega
                 case rel => exact ⟨(wrap64 (aD + (1 - 2))),(wrap64 (aA + 1)),Z22,Z22,H',⟨by have:=aK.out;have:=aM.out;omega⟩,⟨Z3 aC.out⟩⟩
               ·replace jC:=Bool.eq_false_iff.mpr jC
                subst jC;rw [if_neg (show ¬ (false = true) by decide)] at H;obtain rfl:=Option.some.inj H;obtain ⟨jX,jY,jZ,j0,j2,j3,j4,j5,j6,j7⟩:=C5 aB.out
                go_wp2_with (first | ((with_reducible refine gate_callee (f:=14) rfl ?_);refine gL 71 Try.func14 #[.int .i64 ((rd_T70 l0 aA).f1),.int .i64 0,.int .i64 6] ?_;(with_reducible refine (impl_within.calls ((rd_T70 l0 aA).f1) 0 6 false _ lS.out).mono ?_);rintro e w' ⟨rfl,⟨nd,rfl⟩⟩;refine ⟨_,rfl,?_⟩))
                go_ret
                exact ⟨Z12,Z3 aC.out⟩
              ·rw [if_neg bA] at H
               have cC : (((rd_T70 l0 aA).f0) == 5) = false:=beq_eq_false_iff_ne.mpr bA;have cD : (((rd_T70 l0 aA).f0) != 5) = true:=bne_iff_ne.mpr bA
               by_cases bB : ((rd_T70 l0 aA).f0) = 6
               ·rw [if_pos bB] at H
                have cG : (((rd_T70 l0 aA).f0) == 6) = true:=beq_iff_eq.mpr bB;have cH : (((rd_T70 l0 aA).f0) != 6) = false:=bne_eq_false_iff_eq.mpr bB;clear bB
                by_cases bC : ((rd_T70 l0 aA).f1) = 0
                ·rw [if_pos bC] at H
                 have cI : (((rd_T70 l0 aA).f1) == 0) = true:=beq_iff_eq.mpr bC;have cJ : (((rd_T70 l0 aA).f1) != 0) = false:=bne_eq_false_iff_eq.mpr bC;clear bC
                 by_cases bK : aD < 3
                 ·rw [if_pos bK] at H
                  have cK:=dt bK;clear bK;obtain rfl:=Option.some.inj H;obtain ⟨j8,j9,kA,kB,kC,kD,kE,kF,kG,kH⟩:=C5 aB.out
                  go_wp2
                  go_ret
                  exact ⟨Z12,Z3 aC.out⟩
                 ·rw [if_neg bK] at H
                  have cK:=df bK;clear bK;have H':=A_ H;clear H;obtain ⟨kI,kJ,kK,kL,kM,kN,kO,kP,kQ,kR⟩:=C5 aB.out
                  go_wp2
                  go_roundg aN
                  case measure => have:=aK.out;have:=aM.out;omega
                  case rel => exact ⟨(wrap64 (aD + (1 - 3))),(wrap64 (aA + 1)),Z22,Z22,H',⟨by have:=aK.out;have:=aM.out;omega⟩,⟨Z3 aC.out⟩⟩
                ·rw [if_neg bC] at H
                 have cI : (((rd_T70 l0 aA).f1) == 0) = false:=beq_eq_false_iff_ne.mpr bC;have cJ : (((rd_T70 l0 aA).f1) != 0) = true:=bne_iff_ne.mpr bC;obtain rfl:=Option.some.inj H;obtain ⟨kS,kT,kU,kV,kW,kX,kY,kZ,k0,k2⟩:=C5 aB.out
                 go_wp2
                 go_ret
                 exact ⟨Z12,Z3 aC.out⟩
               ·rw [if_neg bB] at H
                have cG : (((rd_T70 l0 aA).f0) == 6) = false:=beq_eq_false_iff_ne.mpr bB;have cH : (((rd_T70 l0 aA).f0) != 6) = true:=bne_iff_ne.mpr bB;obtain rfl:=Option.some.inj H;obtain ⟨k3,k4,k5,k6,k7,k8,k9,lA,lB,lC⟩:=C5 aB.out
                go_wp2
                go_ret
                exact ⟨Z12,Z3 aC.out⟩
     ·rw [if_neg c7] at H
      exact absurd H (by simp)
    ·rw [if_neg c6] at H
     exact absurd H (by simp)
   ·rw [if_neg c5] at H
    have bL:=df c5;clear c5
    by_cases bD : aD = 1
    ·rw [if_pos bD] at H
     have cL:=e_t bD;have cM:=n_f bD;clear bD;obtain rfl:=Option.some.inj H
     go_wp2
     go_ret
     exact ⟨Z12,Z2⟩
    ·rw [if_neg bD] at H
     have cL:=e_f bD;have cM:=n_t bD;obtain rfl:=Option.some.inj H
     go_wp2
     go_ret
     exact ⟨Z12,Z2⟩
end Go.Proofs.Ytmgdjmeoljepgaa.PFnProgBelow
