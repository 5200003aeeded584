/- Walks (lines of the print; no condition). -/
import Derived.Test.YtmgdjmeoljepgaaZFnProgBelowQFnProgBelowx20
namespace Go.Proofs.Ytmgdjmeoljepgaa.PFnProgBelow
open Go.RowKit Go.Proofs.YtmgdjmeoljepgaaW.PrintWords Go.Proofs.YtmgdjmeoljepgaaW.PrintLast Go.Proofs.YtmgdjmeoljepgaaW.PrintMore
attribute [local go_sem] max2_int min2_int max_two min_two max_three min_three max_four min_four
set_option linter.unusedVariables false
set_option linter.unusedSimpArgs false
mutual
def impl_tmplOk.j0 : Nat → List (S48) → Int → Int → Int → Bool → Int → Int → List Int → List (List (S70)) → List (S70) → List (S76) → List (S46) → Int → List (S67) → List (List (S57)) → Int → Int → List Int → List (List (S70)) → List (S70) → List (S76) → List (S46) → Option (Bool)
 | 0,_,_,_,_,_,_,_,_,_,_,_,_,_,_,_,_,_,_,_,_,_,_ => none
 | k + 1,x0,x1,x3,x4,bO,aA,aB,aC,aF,aG,aD,aE,aI,aJ,aH,aK,aL,aM,aN,aO,aP,aQ => if bO = true then (some false) else (if aA = 0 then (impl_tmplOk.j1 k x0 x1 x3 x4 (aB != 0) aA aB aC aF aG aD aE aI aJ aH aK aL aM aN aO aP aQ) else (if aA = 2 then (impl_tmplOk.j1 k x0 x1 x3 x4 (aB != 0) aA aB aC aF aG aD aE aI aJ aH aK aL aM aN aO aP aQ) else (if aA = 3 then (impl_tmplOk.j1 k x0 x1 x3 x4 (aB != 0) aA aB aC aF aG aD aE aI aJ aH aK aL aM aN aO aP aQ) else (impl_tmplOk.j1 k x0 x1 x3 x4 false aA aB aC aF aG aD aE aI aJ aH aK aL aM aN aO aP aQ))))
def impl_tmplOk.j1 : Nat → List (S48) → Int → Int → Int → Bool → Int → Int → List Int → List (List (S70)) → List (S70) → List (S76) → List (S46) → Int → List (S67) → List (List (S57)) → Int → Int → List Int → List (List (S70)) → List (S70) → List (S76) → List (S46) → Option (Bool)
 | 0,_,_,_,_,_,_,_,_,_,_,_,_,_,_,_,_,_,_,_,_,_,_ => none
 | k + 1,x0,x1,x3,x4,bP,aA,aB,aC,aF,aG,aD,aE,aI,aJ,aH,aK,aL,aM,aN,aO,aP,aQ => if bP = true then (some false) else (if aA = 0 then (impl_tmplOk.j4 k x0 x1 x3 x4 1 0 0 aA aB aC aF aG aD aE aI aJ aH aK aL aM aN aO aP aQ) else (if aA = 1 then ((impl_within.f aB 0 4).bind fun bB => (if bB = true then (impl_tmplOk.l0 k x0 x1 x3 x4 (aC.length : Int) 0 4 aC (aC.length : Int) 0 aA aB aC aF aG aD aE aI aJ aH aK aL aM aN aO aP aQ) else (some false))) else (if aA = 2 then (impl_tmplOk.j4 k x0 x1 x3 x4 1 1 2 aA aB aC aF aG aD aE aI aJ aH aK aL aM aN aO aP aQ) else (if aA = 3 then (if (aG.length : Int) > 0 then ((impl_FormOk.f k aG aI (aJ.length : Int) (wrap64 (x4 + 1))).bind fun bC => (if bC = true then (impl_tmplOk.j4 k x0 x1 x3 x4 1 1 1 aA aB aC aF aG aD aE aI aJ aH aK aL aM aN aO aP aQ) else (some false))) else (impl_tmplOk.j4 k x0 x1 x3 x4 1 1 1 aA aB aC aF aG aD aE aI aJ aH aK aL aM aN aO aP aQ)) else (if aA = 4 then ((impl_within.f aB (wrap64 (x1 + 1)) (wrap64 ((x0.length : Int) - 1))).bind fun bD => (if bD = true then (if 0 ≤ aB then (if aB < (x0.length : Int) then (impl_tmplOk.j4 k x0 x1 x3 x4 ((rd_T48 x0 aB).f0) 0 0 aA aB aC aF aG aD aE aI aJ aH aK aL aM aN aO aP aQ) else (none)) else (none)) else (some false))) else (if aA = 5 then ((impl_within.f aB 0 1).bind fun bE => (if bE = true then (impl_tmplOk.j4 k x0 x1 x3 x4 1 0 4 aA aB aC aF aG aD aE aI aJ aH aK aL aM aN aO aP aQ) else (some false))) else (some false)))))))
def impl_tmplOk.j4 : Nat → List (S48) → Int → Int → Int → Int → Int → Int → Int → Int → List Int → List (List (S70)) → List (S70) → List (S76) → List (S46) → Int → List (S67) → List (List (S57)) → Int → Int → List Int → List (List (S70)) → List (S70) → List (S76) → List (S46) → Option (Bool)
 | 0,_,_,_,_,_,_,_,_,_,_,_,_,_,_,_,_,_,_,_,_,_,_,_,_ => none
 | k + 1,x0,x1,x3,x4,a5,a6,a7,aA,aB,aC,aF,aG,aD,aE,aI,aJ,aH,aK,aL,aM,aN,aO,aP,aQ => if (aF.length : Int) = a5 then ((impl_within.f (aE.length : Int) a6 a7).bind fun bF => (if bF = true then ((impl_formsOk.f k aI aJ aH aK aL aM aN aO aP aQ aF x4).bind fun bG => (impl_tmplOk.j5 k x0 x1 x3 x4 (!bG) aA aB aC aF aG aD aE)) else (impl_tmplOk.j5 k x0 x1 x3 x4 true aA aB aC aF aG aD aE))) else (impl_tmplOk.j5 k x0 x1 x3 x4 true aA aB aC aF aG aD aE)
def impl_tmplOk.j5 : Nat → List (S48) → Int → Int → Int → Bool → Int → Int → List Int → List (List (S70)) → List (S70) → List (S76) → List (S46) → Option (Bool)
 | 0,_,_,_,_,_,_,_,_,_,_,_,_ => none
 | k + 1,x0,x1,x3,x4,bH,aA,aB,aC,aF,aG,aD,aE => if bH = true then (some false) else (if aA = 3 then (impl_tmplOk.j6 k x0 x1 x3 (wrap64 (x4 + 1)) aA aB aC aF aG aD aE) else (impl_tmplOk.j6 k x0 x1 x3 x4 aA aB aC aF aG aD aE))
def impl_tmplOk.j6 : Nat → List (S48) → Int → Int → Int → Int → Int → List Int → List (List (S70)) → List (S70) → List (S76) → List (S46) → Option (Bool)
 | 0,_,_,_,_,_,_,_,_,_,_,_ => none
 | k + 1,x0,x1,x3,x4,aA,aB,aC,aF,aG,aD,aE => impl_tmplOk.l2 k x0 x1 x3 x4 aE (aE.length : Int) 0
def impl_tmplOk.l2 : Nat → List (S48) → Int → Int → Int → List (S46) → Int → Int → Option (Bool)
 | 0,_,_,_,_,_,_,_ => none
 | k + 1,x0,x1,x3,x4,aT,a9,aS => if aS < a9 then (if 0 ≤ aS then (if aS < (aT.length : Int) then ((impl_tmplOk.f k x0 x1 ((rd_T46 aT aS).f0) ((rd_T46 aT aS).f1) ((rd_T46 aT aS).f2) ((rd_T46 aT aS).f3) ((rd_T46 aT aS).f4) ((rd_T46 aT aS).f5) ((rd_T46 aT aS).f6) (wrap64 (x3 + 1)) x4).bind fun bI => (if bI = true then (impl_tmplOk.l2 k x0 x1 x3 x4 aT a9 (wrap64 (aS + 1))) else (some false))) else (none)) else (none)) else (some true)
def impl_tmplOk.l0 : Nat → List (S48) → Int → Int → Int → Int → Int → Int → List Int → Int → Int → Int → Int → List Int → List (List (S70)) → List (S70) → List (S76) → List (S46) → Int → List (S67) → List (List (S57)) → Int → Int → List Int → List (List (S70)) → List (S70) → List (S76) → List (S46) → Option (Bool)
 | 0,_,_,_,_,_,_,_,_,_,_,_,_,_,_,_,_,_,_,_,_,_,_,_,_,_,_,_ => none
 | k + 1,x0,x1,x3,x4,a5,a6,a7,bA,bJ,a2,aA,aB,aC,aF,aG,aD,aE,aI,aJ,aH,aK,aL,aM,aN,aO,aP,aQ => if a2 < bJ then (if 0 ≤ a2 then (if a2 < (bA.length : Int) then ((impl_within.f (rd bA a2) 0 3).bind fun bK => (if bK = true then (if a2 > 0 then (if 0 ≤ (wrap64 (a2 - 1)) then (if (wrap64 (a2 - 1)) < (aC.length : Int) then (if (rd bA a2) ≤ (rd aC (wrap64 (a2 - 1))) then (some false) else (impl_tmplOk.l0 k x0 x1 x3 x4 a5 a6 a7 bA bJ (wrap64 (a2 + 1)) aA aB aC aF aG aD aE aI aJ aH aK aL aM aN aO aP aQ)) else (none)) else (none)) else (impl_tmplOk.l0 k x0 x1 x3 x4 a5 a6 a7 bA bJ (wrap64 (a2 + 1)) aA aB aC aF aG aD aE aI aJ aH aK aL aM aN aO aP aQ)) else (some false))) else (none)) else (none)) else (impl_tmplOk.l1 k x0 x1 x3 x4 a5 a6 a7 aD (aD.length : Int) 0 aA aB aC aF aG aD aE aI aJ aH aK aL aM aN aO aP aQ)
def impl_tmplOk.l1 : Nat → List (S48) → Int → Int → Int → Int → Int → Int → List (S76) → Int → Int → Int → Int → List Int → List (List (S70)) → List (S70) → List (S76) → List (S46) → Int → List (S67) → List (List (S57)) → Int → Int → List Int → List (List (S70)) → List (S70) → List (S76) → List (S46) → Option (Bool)
 | 0,_,_,_,_,_,_,_,_,_,_,_,_,_,_,_,_,_,_,_,_,_,_,_,_,_,_,_ => none
 | k + 1,x0,x1,x3,x4,a5,a6,a7,aW,a8,aR,aA,aB,aC,aF,aG,aD,aE,aI,aJ,aH,aK,aL,aM,aN,aO,aP,aQ => if aR < a8 then (if 0 ≤ aR then (if aR < (aW.length : Int) then ((impl_within.f ((rd_T76 aW aR).f0) 0 2).bind fun bL => (if bL = true then (if aR > 0 then (if 0 ≤ (wrap64 (aR - 1)) then (if (wrap64 (aR - 1)) < (aD.length : Int) then (if ((rd_T76 aW aR).f0) ≤ ((rd_T76 aD (wrap64 (aR - 1))).f0) then (some false) else ((impl_within.f ((rd_T76 aW aR).f1) 0 (wrap64 ((aH.length : Int) - 1))).bind fun bM => (if bM = true then (impl_tmplOk.l1 k x0 x1 x3 x4 a5 a6 a7 aW a8 (wrap64 (aR + 1)) aA aB aC aF aG aD aE aI aJ aH aK aL aM aN aO aP aQ) else (some false)))) else (none)) else (none)) else ((impl_within.f ((rd_T76 aW aR).f1) 0 (wrap64 ((aH.length : Int) - 1))).bind fun bN => (if bN = true then (impl_tmplOk.l1 k x0 x1 x3 x4 a5 a6 a7 aW a8 (wrap64 (aR + 1)) aA aB aC aF aG aD aE aI aJ aH aK aL aM aN aO aP aQ) else (some false)))) else (some false))) else (none)) else (none)) else (impl_tmplOk.j4 k x0 x1 x3 x4 a5 a6 a7 aA aB aC aF aG aD aE aI aJ aH aK aL aM aN aO aP aQ)
def impl_tmplOk.f : Nat → List (S48) → Int → Int → Int → List Int → List (List (S70)) → List (S70) → List (S76) → List (S46) → Int → Int → Option (Bool)
 | 0,_,_,_,_,_,_,_,_,_,_,_ => none
 | k + 1,l0,a1,aU,aY,aX,aZ,aV,l2_5,a0,a3,a4 => if 0 ≤ a1 then (if a1 < (l0.length : Int) then (if a3 > 4 then (some false) else (if aU = 1 then (if aU = 3 then (impl_tmplOk.j0 k l0 a1 a3 a4 false aU aY aX aZ aV l2_5 a0 ((rd_T48 l0 a1).f0) ((rd_T48 l0 a1).f1) ((rd_T48 l0 a1).f2) ((rd_T48 l0 a1).f3.f0) ((rd_T48 l0 a1).f3.f1) ((rd_T48 l0 a1).f3.f2) ((rd_T48 l0 a1).f3.f3) ((rd_T48 l0 a1).f3.f4) ((rd_T48 l0 a1).f3.f5) ((rd_T48 l0 a1).f3.f6)) else (impl_tmplOk.j0 k l0 a1 a3 a4 (decide ((aV.length : Int) > 0)) aU aY aX aZ aV l2_5 a0 ((rd_T48 l0 a1).f0) ((rd_T48 l0 a1).f1) ((rd_T48 l0 a1).f2) ((rd_T48 l0 a1).f3.f0) ((rd_T48 l0 a1).f3.f1) ((rd_T48 l0 a1).f3.f2) ((rd_T48 l0 a1).f3.f3) ((rd_T48 l0 a1).f3.f4) ((rd_T48 l0 a1).f3.f5) ((rd_T48 l0 a1).f3.f6))) else (if (aX.length : Int) > 0 then (impl_tmplOk.j0 k l0 a1 a3 a4 true aU aY aX aZ aV l2_5 a0 ((rd_T48 l0 a1).f0) ((rd_T48 l0 a1).f1) ((rd_T48 l0 a1).f2) ((rd_T48 l0 a1).f3.f0) ((rd_T48 l0 a1).f3.f1) ((rd_T48 l0 a1).f3.f2) ((rd_T48 l0 a1).f3.f3) ((rd_T48 l0 a1).f3.f4) ((rd_T48 l0 a1).f3.f5) ((rd_T48 l0 a1).f3.f6)) else (if (l2_5.length : Int) > 0 then (impl_tmplOk.j0 k l0 a1 a3 a4 true aU aY aX aZ aV l2_5 a0 ((rd_T48 l0 a1).f0) ((rd_T48 l0 a1).f1) ((rd_T48 l0 a1).f2) ((rd_T48 l0 a1).f3.f0) ((rd_T48 l0 a1).f3.f1) ((rd_T48 l0 a1).f3.f2) ((rd_T48 l0 a1).f3.f3) ((rd_T48 l0 a1).f3.f4) ((rd_T48 l0 a1).f3.f5) ((rd_T48 l0 a1).f3.f6)) else (if aU = 3 then (impl_tmplOk.j0 k l0 a1 a3 a4 false aU aY aX aZ aV l2_5 a0 ((rd_T48 l0 a1).f0) ((rd_T48 l0 a1).f1) ((rd_T48 l0 a1).f2) ((rd_T48 l0 a1).f3.f0) ((rd_T48 l0 a1).f3.f1) ((rd_T48 l0 a1).f3.f2) ((rd_T48 l0 a1).f3.f3) ((rd_T48 l0 a1).f3.f4) ((rd_T48 l0 a1).f3.f5) ((rd_T48 l0 a1).f3.f6)) else (impl_tmplOk.j0 k l0 a1 a3 a4 (decide ((aV.length : Int) > 0)) aU aY aX aZ aV l2_5 a0 ((rd_T48 l0 a1).f0) ((rd_T48 l0 a1).f1) ((rd_T48 l0 a1).f2) ((rd_T48 l0 a1).f3.f0) ((rd_T48 l0 a1).f3.f1) ((rd_T48 l0 a1).f3.f2) ((rd_T48 l0 a1).f3.f3) ((rd_T48 l0 a1).f3.f4) ((rd_T48 l0 a1).f3.f5) ((rd_T48 l0 a1).f3.f6))))))) else (none)) else (none)
end
def impl_tmplOk.T25 : Bool × List (List Nat × List Nat):=(true,[([],[]),([0],[0]),([1],[1]),([2],[2]),([3,2],[3]),([4],[4]),([5,4],[4,5]),([6,4,4],[4,6]),([7],[7]),([8,7],[7,8]),([7],[7]),([10,7],[7,10]),([7],[7]),([12,7],[7,12]),([11,13,7],[7,11,13]),([14,7],[7,14]),([15,7],[7,15]),([9,16,7],[7,9,16]),([7,17,4],[4,7,17]),([4,18],[4,18]),([19,7],[19]),([20],[20]),([21,20],[20,21]),([20],[20]),([23,20],[20,23]),([24,20],[20,24]),([25,20],[20,25]),([22,26,20,20],[20,22,26]),([27,20],[20,27]),([20,28],[20,28])])
def impl_tmplOk.B25 : List Nat:=[0,1,3,7,15,31,63,127,255,511,255,1279,255,4351,15615,31999,64767,131071,262143,524287,1048575,2097151,4194303,2097151,10485759,27262975,60817407,134217727,268435455,536870911]
theorem impl_tmplOk.tab25 : rtab .any (opsOf Try.f25 25) = impl_tmplOk.T25:=by kernel_rfl
theorem impl_tmplOk.bits25 : waitsOk impl_tmplOk.T25.2 impl_tmplOk.B25 = true:=by kernel_rfl
set_option maxHeartbeats 8000000 in
set_option maxRecDepth 100000 in
def impl_tmplOk.S1 : {T : Prop // T → ∀ (k : Nat),∀ (A0 : Option Addr) (c0 : Nat) (l0 : List (S48)) (a1 : Int) (aI : Int) (aO : Int) (a9 : Option Addr) (bA : Nat) (aL : List Int) (bB : Option Addr) (bC : Nat) (aX : List (List (S70))) (bD : Option Addr) (bE : Nat) (aS : List (S70)) (b6 : Option Addr) (bF : Nat) (l2_5 : List (S76)) (bK : Option Addr) (bG : Nat) (aK : List (S46)) (a3 : Int) (a4 : Int) (r : Bool) (w : World) (CO : Kd.C k48 w A0 l0.length l0) (hc0 : l0.length ≤ c0) (gE : Kd.C (Kd.int .i64) w a9 aL.length aL) (gF : aL.length ≤ bA) (gG : Kd.C (Kd.slice 70 k70) w bB aX.length aX) (gH : aX.length ≤ bC) (gI : Kd.C k70 w bD aS.length aS) (gJ : aS.length ≤ bE) (gK : Kd.C k76 w b6 l2_5.length l2_5) (gM : l2_5.length ≤ bF) (gN : Kd.C k46 w bK aK.length aK) (gO : aK.length ≤ bG) (h : impl_tmplOk.f k l0 a1 aI aO aL aX aS l2_5 aK a3 a4 = some r),
  Calls Try.prog 25 #[.slice A0 l0.length c0,.int .i64 a1,.agg #[.int .i64 aI,.int .i64 aO,.slice a9 aL.length bA,.slice bB aX.length bC,.slice bD aS.length bE,.slice b6 l2_5.length bF,.slice bK aK.length bG],.int .i64 a3,.int .i64 a4] w fun e w' => e = .returned (.bool r) ∧ Below w.heap.size w w'}:=by
 apply @Subtype.mk _ _ _ ?h_
 case h_ =>
  intro mN_ k
  induction k using Nat.strongRecOn with
  | _ k ih =>
  intro A0 c0 l0 a1 aI aO a9 bA aL bB bC aX bD bE aS b6 bF l2_5 bK bG aK a3 a4 r w CO hc0 gE gF gG gH gI gJ gK gM gN gO h
  cases k with
  | zero => exact absurd h (by simp [impl_tmplOk.f])
  | succ k =>
  simp only [impl_tmplOk.f] at h;have GY:=Try.underlying46;have GZ:=Try.underlying48;have G0:=Try.underlying76;have mU:=A_ CO;have FB:=A_ hc0;clear CO hc0;have d2:=A_ gE;have FC:=A_ gF;clear gE gF;have mV:=A_ gG;have mW:=A_ gH;clear gG gH;have k0:=A_ gI;have k1:=A_ gJ;clear gI gJ;have b9:=A_ gK;have FD:=A_ gM;clear gK gM;have k2:=A_ gN;have FE:=A_ gO;clear gN gO;have HB:=A_ (Below.refl w.heap.size w);have H:=h;unfold impl_tmplOk.f at H;clear h
  by_cases c6 : 0 ≤ a1
  ·rw [if_pos c6] at H
   have CP:=dt c6;clear c6
   by_cases c7 : a1 < (l0.length : Int)
   ·rw [if_pos c7] at H
    have CQ:=dt c7;clear c7
    by_cases c8 : a3 > 4
    ·rw [if_pos c8] at H
     have mX : decide (4 < a3) = true:=dt c8;clear c8;obtain rfl:=Option.some.inj H
     go_enter Try.func25,Try.ntmps25
     go_wp2_with (first | ((with_reducible refine gate_dst (N:=7) rfl ?_);(try (refine gate_guard (by rfl) ?_;dsimp only));refine be (cs:=#[.int .i64 aI,.int .i64 aO,.slice a9 aL.length bA,.slice bB aX.length bC,.slice bD aS.length bE,.slice b6 l2_5.length bF,.slice bK aK.length bG]) (t:=46) ?_;intro aJ hg w9 hbox hb;have aB:=A_ hbox;have gP:=A_ (gl hg (bz Z2));have GE954:=gP;replace HB:=A_ (bst Z2 hb);clear hb hbox hg;have eJ : 0 ≤ (a1 : Int):=odt;have eK : a1 < (l0.length : Int):=odt;obtain ⟨e1,A955_1,c955_1,A955_2,c955_2,A955_5,c955_5,A955_6,c955_6,A955_7,c955_7,A955_8,c955_8,aT,aU,lJ,bW,bX,bY,bZ,b0,b1,b2,b3,b4,b5,cA,cB,cC,cD,cE,cF,cG,cH,cI,cJ,cK,cL,cM,cN⟩:=at_T48 mU.out a1 eJ eK;cases lJ;replace bW:=ZC HB.out bW;replace bX:=ZC HB.out bX;replace bY:=ZC HB.out bY;replace bZ:=ZC HB.out bZ;replace b0:=ZC HB.out b0;replace b1:=ZC HB.out b1;replace b2:=ZC HB.out b2;replace b3:=ZC HB.out b3;replace b4:=ZC HB.out b4;replace b5:=ZC HB.out b5;have e2:=A_ cB;have e3:=A_ cA;clear cB cA;have e4:=A_ cD;have e5:=A_ cC;clear cD cC;have e6:=A_ cF;have e7:=A_ cE;clear cF cE;have e8:=A_ cH;have e9:=A_ cG;clear cH cG;have fA:=A_ cJ;have fB:=A_ cI;clear cJ cI;have fC:=A_ cL;have fD:=A_ cK;clear cL cK;have fE:=A_ cN;have fF:=A_ cM;clear cN cM;replace eJ:=eq_true eJ;replace eK:=eq_true eK) | ((with_reducible refine gate_dst (N:=11) rfl ?_);(try (refine gate_guard (by rfl) ?_;dsimp only));refine be (cs:=#[.int .i64 0,.slice none 0 0,.slice none 0 0,.int .i64 0,.int .i64 0,.slice none 0 0,.slice none 0 0,.slice none 0 0,.slice none 0 0,.slice none 0 0]) (t:=48) ?_;intro aF hg HN hbox hb;have aA:=A_ hbox;have gQ:=A_ (gl hg (bz (Z3 GE954.out)));have GE956:=gQ;replace HB:=A_ (bst (Z3 GE954.out) hb);have aD:=A_ ((by rw [hg];exact nl (blk_lt (Z1 aB.out)) : aJ ≠ aF));have aG:=A_ ((by rw [hg];exact Nat.ne_of_gt (blk_lt (Z1 aB.out)) : aF ≠ aJ));replace aB:=A_ (bb (Z1 aB.out) hb);clear hb hbox hg;have FF:=aG.out;have FG:=aD.out;obtain ⟨vP,vQ,vR,vS,vT,vU,vV,vW,vX,vY,vZ,wA,wB,wC,wD,wE,wF,wG,wH,wI⟩:=C10 aA.out))
     go_ret
     exact ⟨Z12,Z8 GE954.out GE956.out⟩
    ·rw [if_neg c8] at H
     have mX : decide (4 < a3) = false:=df c8;clear c8;have lK:=A_ H;clear H
     go_enter Try.func25,Try.ntmps25
     go_upto_region 4 with (first | ((with_reducible refine gate_dst (N:=7) rfl ?_);(try (refine gate_guard (by rfl) ?_;dsimp only));refine be (cs:=#[.int .i64 aI,.int .i64 aO,.slice a9 aL.length bA,.slice bB aX.length bC,.slice bD aS.length bE,.slice b6 l2_5.length bF,.slice bK aK.length bG]) (t:=46) ?_;intro aJ hg HP hbox hb;have aB:=A_ hbox;have gP:=A_ (gl hg (bz Z2));have GE954:=gP;replace HB:=A_ (bst Z2 hb);clear hb hbox hg;have eJ : 0 ≤ (a1 : Int):=odt;have eK : a1 < (l0.length : Int):=odt;obtain ⟨e1,A955_1,c955_1,A955_2,c955_2,A955_5,c955_5,A955_6,c955_6,A955_7,c955_7,A955_8,c955_8,aT,aU,lJ,bW,bX,bY,bZ,b0,b1,b2,b3,b4,b5,cA,cB,cC,cD,cE,cF,cG,cH,cI,cJ,cK,cL,cM,cN⟩:=at_T48 mU.out a1 eJ eK;cases lJ;replace bW:=ZC HB.out bW;replace bX:=ZC HB.out bX;replace bY:=ZC HB.out bY;replace bZ:=ZC HB.out bZ;replace b0:=ZC HB.out b0;replace b1:=ZC HB.out b1;replace b2:=ZC HB.out b2;replace b3:=ZC HB.out b3;replace b4:=ZC HB.out b4;replace b5:=ZC HB.out b5;have e2:=A_ cB;have e3:=A_ cA;clear cB cA;have e4:=A_ cD;have e5:=A_ cC;clear cD cC;have e6:=A_ cF;have e7:=A_ cE;clear cF cE;have e8:=A_ cH;have e9:=A_ cG;clear cH cG;have fA:=A_ cJ;have fB:=A_ cI;clear cJ cI;have fC:=A_ cL;have fD:=A_ cK;clear cL cK;have fE:=A_ cN;have fF:=A_ cM;clear cN cM;replace eJ:=eq_true eJ;replace eK:=eq_true eK) | ((with_reducible refine gate_dst (N:=11) rfl ?_);(try (refine gate_guard (by rfl) ?_;dsimp only));refine be (cs:=#[.int .i64 0,.slice none 0 0,.slice none 0 0,.int .i64 0,.int .i64 0,.slice none 0 0,.slice none 0 0,.slice none 0 0,.slice none 0 0,.slice none 0 0]) (t:=48) ?_;intro aF hg HQ hbox hb;have aA:=A_ hbox;have gQ:=A_ (gl hg (bz (Z3 GE954.out)));have GE956:=gQ;replace HB:=A_ (bst (Z3 GE954.out) hb);have aD:=A_ ((by rw [hg];exact nl (blk_lt (Z1 aB.out)) : aJ ≠ aF));have aG:=A_ ((by rw [hg];exact Nat.ne_of_gt (blk_lt (Z1 aB.out)) : aF ≠ aJ));replace aB:=A_ (bb (Z1 aB.out) hb);clear hb hbox hg;have FH:=aG.out;have FI:=aD.out;obtain ⟨iT,iU,iV,iW,iX,iY,iZ,i1,i2,i3,i4,i5,i6,i7,i8,i9,jA,jB,jC,jD⟩:=C10 aA.out))
     (try simp only [Act.put,List.setIfInBounds_toArray,List.set_cons_zero,List.set_cons_succ])
     rename_i Q0_ K0_ a0_ K1_ a1_
     go_cut [52] (fun G1 wc => ∃ (kq : Nat) (d6 : Bool),G1 = .bool d6 ∧ Aside0 (impl_tmplOk.j0 kq l0 a1 a3 a4 d6 aI aO aL aX aS l2_5 aK ((rd_T48 l0 a1).f0) ((rd_T48 l0 a1).f1) ((rd_T48 l0 a1).f2) ((rd_T48 l0 a1).f3.f0) ((rd_T48 l0 a1).f3.f1) ((rd_T48 l0 a1).f3.f2) ((rd_T48 l0 a1).f3.f3) ((rd_T48 l0 a1).f3.f4) ((rd_T48 l0 a1).f3.f5) ((rd_T48 l0 a1).f3.f6) = some r) ∧ Aside0 (kq ≤ k) ∧ Aside0 (wc.heap[aJ]? = some (.cells #[.int .i64 aI,.int .i64 aO,(.slice a9 aL.length bA),(.slice bB aX.length bC),(.slice bD aS.length bE),(.slice b6 l2_5.length bF),(.slice bK aK.length bG)] 46 (0,0))) ∧ Aside0 (wc.heap[aF]? = some (.cells #[.int .i64 ((rd_T48 l0 a1).f0),(.slice A955_1 ((rd_T48 l0 a1).f1).length c955_1),(.slice A955_2 ((rd_T48 l0 a1).f2).length c955_2),.int .i64 ((rd_T48 l0 a1).f3.f0),.int .i64 ((rd_T48 l0 a1).f3.f1),(.slice A955_5 ((rd_T48 l0 a1).f3.f2).length c955_5),(.slice A955_6 ((rd_T48 l0 a1).f3.f3).length c955_6),(.slice A955_7 ((rd_T48 l0 a1).f3.f4).length c955_7),(.slice A955_8 ((rd_T48 l0 a1).f3.f5).length c955_8),(.slice aT ((rd_T48 l0 a1).f3.f6).length aU)] 48 (0,0))) ∧ Aside0 (Below w.heap.size w wc))
     case first =>
      have H:=lK.out;clear lK
      by_cases lL : aI = 1
      ·rw [if_pos lL] at H
       have eL:=e_t lL;have mY:=n_f lL;clear lL;(first | rw [eL] | (simp only [i64_w,i32_w];rw [eL]) | skip)
       by_cases lM : aI = 3
       ·rw [if_pos lM] at H
        have mZ:=e_t lM;have m0:=n_f lM;clear lM;have H':=A_ H;clear H;have FJ:=aD.out;have FL:=aG.out;obtain ⟨wJ,wK,wL,wM,wN,wO,wP,wQ,wR,wS,wT,wU,wV,wW⟩:=C7 aB.out
        go_wp2
        go_meet
        case rel => exact ⟨_,(false),Z22,H',⟨Z47⟩,⟨Z15 aD.out aB.out⟩,⟨Z6 aA.out⟩,⟨Z8 GE954.out GE956.out⟩⟩
       ·rw [if_neg lM] at H
        have mZ:=e_f lM;have m0:=n_t lM;have H':=A_ H;clear H;have FM:=aD.out;have FN:=aG.out;obtain ⟨wX,wY,wZ,w3,w4,w5,w6,w7,w8,xA,xB,xC,xD,xE⟩:=C7 aB.out
        go_wp2
        go_meet
        case rel => exact ⟨_,(decide ((aS.length : Int) > 0)),Z22,H',⟨Z47⟩,⟨Z15 aD.out aB.out⟩,⟨Z6 aA.out⟩,⟨Z8 GE954.out GE956.out⟩⟩
      ·rw [if_neg lL] at H
       have eL:=e_f lL;have mY:=n_t lL;(first | rw [eL] | (simp only [i64_w,i32_w];rw [eL]) | skip)
       by_cases mM : (aL.length : Int) > 0
       ·rw [if_pos mM] at H
        have m1 : decide (0 < (aL.length : Int)) = true:=dt mM;have m2 : decide (0 < aL.length) = true:=dt (by omega);clear mM;have H':=A_ H;clear H;have FO:=aD.out;have FP:=aG.out;obtain ⟨xF,xG,xH,xI,xJ,xK,xL,xM,xN,xO,xP,xQ,xR,xS⟩:=C7 aB.out
        go_wp2
        go_meet
        case rel => exact ⟨_,(true),Z22,H',⟨Z47⟩,⟨Z15 aD.out aB.out⟩,⟨Z6 aA.out⟩,⟨Z8 GE954.out GE956.out⟩⟩
       ·rw [if_neg mM] at H
        have m1 : decide (0 < (aL.length : Int)) = false:=df mM;have m2 : decide (0 < aL.length) = false:=df (by omega);clear mM
        by_cases mN : (l2_5.length : Int) > 0
        ·rw [if_pos mN] at H
         have m3 : decide (0 < (l2_5.length : Int)) = true:=dt mN;have m4 : decide (0 < l2_5.length) = true:=dt (by omega);clear mN;have H':=A_ H;clear H;have FQ:=aD.out;have FR:=aG.out;obtain ⟨xT,xU,xV,xW,xX,xY,xZ,x0,x1,x2,x3,x4,x5,x6⟩:=C7 aB.out
         go_wp2
         go_meet
         case rel => exact ⟨_,(true),Z22,H',⟨Z47⟩,⟨Z15 aD.out aB.out⟩,⟨Z6 aA.out⟩,⟨Z8 GE954.out GE956.out⟩⟩
        ·rw [if_neg mN] at H
         have m3 : decide (0 < (l2_5.length : Int)) = false:=df mN;have m4 : decide (0 < l2_5.length) = false:=df (by omega);clear mN
         by_cases lN : aI = 3
         ·rw [if_pos lN] at H
          have m5:=e_t lN;have m6:=n_f lN;clear lN;have H':=A_ H;clear H;have FS:=aD.out;have FT:=aG.out;obtain ⟨x7,x8,x9,yA,yB,yC,yD,yE,yF,yG,yI,yJ,yK,yL⟩:=C7 aB.out
          go_wp2
          go_meet
          case rel => exact ⟨_,(false),Z22,H',⟨Z47⟩,⟨Z15 aD.out aB.out⟩,⟨Z6 aA.out⟩,⟨Z8 GE954.out GE956.out⟩⟩
         ·rw [if_neg lN] at H
          have m5:=e_f lN;have m6:=n_t lN;have H':=A_ H;clear H;have FU:=aD.out;have FV:=aG.out;obtain ⟨yM,yN,yO,yP,yQ,yR,yS,yT,yU,yV,yW,yX,yY,yZ⟩:=C7 aB.out
          go_wp2
          go_meet
          case rel => exact ⟨_,(decide ((aS.length : Int) > 0)),Z22,H',⟨Z47⟩,⟨Z15 aD.out aB.out⟩,⟨Z6 aA.out⟩,⟨Z8 GE954.out GE956.out⟩⟩
     case rest =>
      clear lK CP CQ mX iT iU iV iW iX iY iZ i1 i2 i3 i4 i5 i6 i7 i8 i9 jA jB jC jD bW bX bY bZ b0 b1 b2 b3 b4 b5 eJ eK;obtain ⟨kq,d6,rfl,HA,a5,aB,aA,HB⟩:=hcut
      cases kq with
      | zero => exact absurd HA.out (by simp [impl_tmplOk.j0])
      | succ CR =>
       have H:=HA.out;clear HA;simp only [impl_tmplOk.j0] at H
       by_cases y0 : d6 = true
       ·subst y0
        rw [if_pos rfl] at H;obtain rfl:=Option.some.inj H
        go_wp2
        go_ret
        exact ⟨Z12,Z8 GE954.out GE956.out⟩
       ·replace y0:=Bool.eq_false_iff.mpr y0
        subst y0;rw [if_neg (show ¬ (false = true) by decide)] at H;have lO:=A_ H;clear H
        go_upto_region 6 with (fail)
        go_cut [70] (fun G2 wc => ∃ (kq : Nat) (d7 : Bool),G2 = .bool d7 ∧ Aside0 (impl_tmplOk.j1 kq l0 a1 a3 a4 d7 aI aO aL aX aS l2_5 aK ((rd_T48 l0 a1).f0) ((rd_T48 l0 a1).f1) ((rd_T48 l0 a1).f2) ((rd_T48 l0 a1).f3.f0) ((rd_T48 l0 a1).f3.f1) ((rd_T48 l0 a1).f3.f2) ((rd_T48 l0 a1).f3.f3) ((rd_T48 l0 a1).f3.f4) ((rd_T48 l0 a1).f3.f5) ((rd_T48 l0 a1).f3.f6) = some r) ∧ Aside0 (kq ≤ CR) ∧ Aside0 (wc.heap[aJ]? = some (.cells #[.int .i64 aI,.int .i64 aO,(.slice a9 aL.length bA),(.slice bB aX.length bC),(.slice bD aS.length bE),(.slice b6 l2_5.length bF),(.slice bK aK.length bG)] 46 (0,0))) ∧ Aside0 (wc.heap[aF]? = some (.cells #[.int .i64 ((rd_T48 l0 a1).f0),(.slice A955_1 ((rd_T48 l0 a1).f1).length c955_1),(.slice A955_2 ((rd_T48 l0 a1).f2).length c955_2),.int .i64 ((rd_T48 l0 a1).f3.f0),.int .i64 ((rd_T48 l0 a1).f3.f1),(.slice A955_5 ((rd_T48 l0 a1).f3.f2).length c955_5),(.slice A955_6 ((rd_T48 l0 a1).f3.f3).length c955_6),(.slice A955_7 ((rd_T48 l0 a1).f3.f4).length c955_7),(.slice A955_8 ((rd_T48 l0 a1).f3.f5).length c955_8),(.slice aT ((rd_T48 l0 a1).f3.f6).length aU)] 48 (0,0))) ∧ Aside0 (Below w.heap.size w wc))
        case first =>
         have H:=lO.out;clear lO
         by_cases lP : aI = 0
         ·rw [if_pos lP] at H
          have eM:=e_t lP;have m7:=n_f lP;clear lP;(first | rw [eM] | (simp only [i64_w,i32_w];rw [eM]) | skip);have H':=A_ H;clear H;have FW:=aD.out;have FX:=aG.out;obtain ⟨y1,y2,y3,y4,y5,y6,y7,y8,y9,zA,zB,zC,zD,zE⟩:=C7 aB.out
          go_wp2
          go_meet
          case rel => exact ⟨_,((aO != 0)),Z22,H',⟨by have:=a5.out;first | omega | exact Nat.le_refl _⟩,⟨Z1 aB.out⟩,⟨Z1 aA.out⟩,⟨Z8 GE954.out GE956.out⟩⟩
         ·rw [if_neg lP] at H
          have eM:=e_f lP;have m7:=n_t lP;(first | rw [eM] | (simp only [i64_w,i32_w];rw [eM]) | skip)
          by_cases lQ : aI = 2
          ·rw [if_pos lQ] at H
           have m8:=e_t lQ;have m9:=n_f lQ;clear lQ;have H':=A_ H;clear H;have FY:=aD.out;have FZ:=aG.out;obtain ⟨zF,zG,zH,zI,zJ,zK,zL,zM,zN,zO,zP,zQ,zR,zS⟩:=C7 aB.out
           go_wp2
           go_meet
           case rel => exact ⟨_,((aO != 0)),Z22,H',⟨by have:=a5.out;first | omega | exact Nat.le_refl _⟩,⟨Z1 aB.out⟩,⟨Z1 aA.out⟩,⟨Z8 GE954.out GE956.out⟩⟩
          ·rw [if_neg lQ] at H
           have m8:=e_f lQ;have m9:=n_t lQ
           by_cases lR : aI = 3
           ·rw [if_pos lR] at H
            have nA:=e_t lR;have nB:=n_f lR;clear lR;have H':=A_ H;clear H;have F0:=aD.out;have F1:=aG.out;obtain ⟨zT,zU,zV,zW,zX,zY,zZ,z1,z2,z3,z4,z5,z6,z7⟩:=C7 aB.out
            go_wp2
            go_meet
            case rel => exact ⟨_,((aO != 0)),Z22,H',⟨by have:=a5.out;first | omega | exact Nat.le_refl _⟩,⟨Z1 aB.out⟩,⟨Z1 aA.out⟩,⟨Z8 GE954.out GE956.out⟩⟩
           ·rw [if_neg lR] at H
            have nA:=e_f lR;have nB:=n_t lR;have H':=A_ H;clear H;have F2:=aD.out;have F3:=aG.out;obtain ⟨z8,z9,AA,AB,AC,AD,AE,AF,AG,AH,AI,AJ,AK,AL⟩:=C7 aB.out
            go_wp2
            go_meet
            case rel => exact ⟨_,(false),Z22,H',⟨by have:=a5.out;first | omega | exact Nat.le_refl _⟩,⟨Z1 aB.out⟩,⟨Z1 aA.out⟩,⟨Z8 GE954.out GE956.out⟩⟩
        case rest =>
         clear lO;obtain ⟨kq,d7,rfl,HA,bH,aB,aA,HB⟩:=hcut
         cases kq with
         | zero => exact absurd HA.out (by simp [impl_tmplOk.j1])
         | succ gR =>
          have H:=HA.out;clear HA;simp only [impl_tmplOk.j1] at H
          by_cases AM : d7 = true
          ·subst AM
           rw [if_pos rfl] at H;obtain rfl:=Option.some.inj H
           go_wp2
           go_ret
           exact ⟨Z12,Z8 GE954.out GE956.out⟩
          ·replace AM:=Bool.eq_false_iff.mpr AM
           subst AM;rw [if_neg (show ¬ (false = true) by decide)] at H;have lS:=A_ H;clear H;have F4:=aD.out;have F5:=aG.out;obtain ⟨jE,jF,jG,jH,jI,jJ,jK,jL,jM,jN,jO,jP,jQ,jR⟩:=C7 aB.out
           go_upto_block 0 with (fail)
           rename_i p_ q_ r_ K2_ a2_
           clear p_ q_ r_
           revert c0 l0 a1 aI aO a9 bA aL bB bC aX bD bE aS b6 bF l2_5 bK bG aK a3 a4 r w k ih GY GZ G0 FB d2 FC mV mW k0 k1 b9 FD k2 FE Q0_ aJ HP gP GE954 e1 A955_1 c955_1 A955_2 c955_2 A955_5 c955_5 A955_6 c955_6 A955_7 c955_7 A955_8 c955_8 aT aU mU e2 e3 e4 e5 e6 e7 e8 e9 fA fB fC fD fE fF aF HQ gQ GE956 aD aG FH FI u70 CR a5 wc u21 u22 u23 u24 u25 u26 u27 u28 u29 u30 u31 u32 u33 u34 u35 u36 u37 u38 u39 u40 u41 u42 u43 u44 u45 u46 u47 u48 u49 u50 u51 u52 u53 u54 u55 u56 u57 u58 u59 u60 u61 u62 u63 u64 u65 u66 u67 u68 u69 u71 u74 u76 u77 u78 u79 u80 u81 u82 u83 u84 u88 u89 u90 u91 u92 u93 u94 u95 u96 u97 u98 u99 u100 u101 u102 u103 u104 u105 u106 u107 u108 u109 u110 u114 u115 u116 u117 u118 u119 u120 u121 u122 u123 u124 u125 u126 u127 u128 u129 u130 u131 u132 u133 u134 u135 u136 u137 u138 u139 u140 u141 u142 u143 u144 u145 u146 u147 u148 u150 u152 u153 u154 u155 u156 u157 u158 u159 u160 u161 u162 u163 u164 u165 u166 u167 u168 u169 u171 u172 u173 u174 u175 u176 u177 u178 u179 u180 u181 u182 u183 u184 u185 u186 u188 u189 u190 u191 u192 u193 u194 u195 u196 u197 u198 u199 u200 u201 u202 u203 u204 u205 u206 u207 u208 u209 u210 u211 u212 u213 u214 u215 u216 u217 u218 u219 u220 u224 u225 u226 u227 u228 u229 u230 u231 u232 u233 u234 u235 aB aA HB gR bH lS F4 F5 jE jF jG jH jI jJ jK jL jM jN jO jP jQ jR K2_ a2_
           exact mN_
   ·rw [if_neg c7] at H
    exact absurd H (by simp)
  ·rw [if_neg c6] at H
   exact absurd H (by simp)
set_option maxHeartbeats 8000000 in
set_option maxRecDepth 100000 in
def impl_tmplOk.S2 : {T : Prop // T → impl_tmplOk.S1.1}:=by
 apply @Subtype.mk _ _ _ ?h_
 case h_ =>
  intro mN_ c0 l0 a1 aI aO a9 bA aL bB bC aX bD bE aS b6 bF l2_5 bK bG aK a3 a4 r w k ih GY GZ G0 FB d2 FC mV mW k0 k1 b9 FD k2 FE Q0_ aJ HP gP GE954 e1 A955_1 c955_1 A955_2 c955_2 A955_5 c955_5 A955_6 c955_6 A955_7 c955_7 A955_8 c955_8 aT aU mU e2 e3 e4 e5 e6 e7 e8 e9 fA fB fC fD fE fF aF HQ _ gQ GE956 _ aD aG _ FH FI u70 CR a5 wc u21 u22 u23 u24 u25 u26 u27 u28 u29 u30 u31 u32 u33 u34 u35 u36 u37 u38 u39 u40 u41 u42 u43 u44 u45 u46 u47 u48 u49 u50 u51 u52 u53 u54 u55 u56 u57 u58 u59 u60 u61 u62 u63 u64 u65 u66 u67 u68 u69 u71 u74 u76 u77 u78 u79 u80 u81 u82 u83 u84 u88 u89 u90 u91 u92 u93 u94 u95 u96 u97 u98 u99 u100 u101 u102 u103 u104 u105 u106 u107 u108 u109 u110 u114 u115 u116 u117 u118 u119 u120 u121 u122 u123 u124 u125 u126 u127 u128 u129 u130 u131 u132 u133 u134 u135 u136 u137 u138 u139 u140 u141 u142 u143 u144 u145 u146 u147 u148 u150 u152 u153 u154 u155 u156 u157 u158 u159 u160 u161 u162 u163 u164 u165 u166 u167 u168 u169 u171 u172 u173 u174 u175 u176 u177 u178 u179 u180 u181 u182 u183 u184 u185 u186 u188 u189 u190 u191 u192 u193 u194 u195 u196 u197 u198 u199 u200 u201 u202 u203 u204 u205 u206 u207 u208 u209 u210 u211 u212 u213 u214 u215 u216 u217 u218 u219 u220 u224 u225 u226 u227 u228 u229 u230 u231 u232 u233 u234 u235 aB aA HB gR bH lS F4 F5 jE jF jG jH jI jJ jK jL jM jN jO jP jQ jR K2_ a2_
  go_cut [12,13,14] (fun G3 G4 G5 wc => ∃ (kq : Nat) (bR : Int) (dJ : Int) (dK : Int),G3 = .int .i64 bR ∧ G4 = .int .i64 dJ ∧ G5 = .int .i64 dK ∧ Aside0 (impl_tmplOk.j4 kq l0 a1 a3 a4 bR dJ dK aI aO aL aX aS l2_5 aK ((rd_T48 l0 a1).f0) ((rd_T48 l0 a1).f1) ((rd_T48 l0 a1).f2) ((rd_T48 l0 a1).f3.f0) ((rd_T48 l0 a1).f3.f1) ((rd_T48 l0 a1).f3.f2) ((rd_T48 l0 a1).f3.f3) ((rd_T48 l0 a1).f3.f4) ((rd_T48 l0 a1).f3.f5) ((rd_T48 l0 a1).f3.f6) = some r) ∧ Aside0 (kq ≤ gR) ∧ Aside0 (wc.heap[aJ]? = some (.cells #[.int .i64 aI,.int .i64 aO,(.slice a9 aL.length bA),(.slice bB aX.length bC),(.slice bD aS.length bE),(.slice b6 l2_5.length bF),(.slice bK aK.length bG)] 46 (0,0))) ∧ Aside0 (wc.heap[aF]? = some (.cells #[.int .i64 ((rd_T48 l0 a1).f0),(.slice A955_1 ((rd_T48 l0 a1).f1).length c955_1),(.slice A955_2 ((rd_T48 l0 a1).f2).length c955_2),.int .i64 ((rd_T48 l0 a1).f3.f0),.int .i64 ((rd_T48 l0 a1).f3.f1),(.slice A955_5 ((rd_T48 l0 a1).f3.f2).length c955_5),(.slice A955_6 ((rd_T48 l0 a1).f3.f3).length c955_6),(.slice A955_7 ((rd_T48 l0 a1).f3.f4).length c955_7),(.slice A955_8 ((rd_T48 l0 a1).f3.f5).length c955_8),(.slice aT ((rd_T48 l0 a1).f3.f6).length aU)] 48 (0,0))) ∧ Aside0 (Below w.heap.size w wc))
  case rest =>
   clear aB aA HB jE jF jG jH jI jJ jK jL jM jN jO jP jQ jR
   revert c0 l0 a1 aI aO a9 bA aL bB bC aX bD bE aS b6 bF l2_5 bK bG aK a3 a4 r w k ih GY GZ G0 FB d2 FC mV mW k0 k1 b9 FD k2 FE Q0_ aJ HP gP GE954 e1 A955_1 c955_1 A955_2 c955_2 A955_5 c955_5 A955_6 c955_6 A955_7 c955_7 A955_8 c955_8 aT aU mU e2 e3 e4 e5 e6 e7 e8 e9 fA fB fC fD fE fF aF HQ gQ GE956 aD aG FH FI CR a5 gR bH lS F4 F5 K2_ a2_ wc u10 u12 u13 u14 u15 u16 u17 u18 u21 u22 u23 u24 u25 u26 u27 u28 u29 u30 u31 u32 u33 u34 u35 u36 u37 u38 u39 u40 u41 u42 u43 u44 u45 u46 u47 u48 u49 u50 u51 u52 u53 u54 u55 u56 u57 u58 u59 u60 u61 u62 u63 u64 u65 u66 u67 u68 u69 u70 u71 u73 u74 u75 u76 u77 u78 u79 u80 u81 u82 u83 u84 u85 u86 u87 u88 u89 u90 u91 u92 u93 u94 u95 u96 u97 u98 u99 u100 u101 u102 u103 u104 u105 u106 u107 u108 u109 u110 u111 u112 u113 u114 u115 u116 u117 u118 u119 u120 u121 u122 u123 u124 u125 u126 u127 u128 u129 u130 u131 u132 u133 u134 u135 u136 u137 u138 u139 u140 u141 u142 u143 u144 u145 u146 u147 u148 u149 u150 u151 u152 u153 u154 u155 u156 u157 u158 u159 u160 u161 u162 u163 u164 u165 u166 u167 u168 u169 u170 u171 u172 u173 u174 u175 u176 u177 u178 u179 u180 u181 u182 u183 u184 u185 u186 u187 u188 u189 u190 u191 u192 u193 u194 u195 u196 u197 u198 u199 u200 u201 u202 u203 u204 u205 u206 u207 u208 u209 u210 u211 u212 u213 u214 u215 u216 u217 u218 u219 u220 u224 u225 u226 u227 u228 u229 u230 u231 u232 u233 u234 u235 hcut
   exact mN_
  case first =>
   clear mN_
   have H:=lS.out;clear lS
   by_cases k5 : aI = 0
   ·rw [if_pos k5] at H
    have d3:=e_t k5;have k7:=n_f k5;clear k5;(first | rw [d3] | (simp only [i64_w,i32_w];rw [d3]) | skip);have H':=A_ H;clear H
    go_wp2
    go_meet
    case rel => exact ⟨_,(1),(0),(0),Z22,Z22,Z22,H',⟨by have:=a5.out;have:=bH.out;first | omega | exact Nat.le_refl _⟩,⟨Z1 aB.out⟩,⟨Z1 aA.out⟩,⟨Z8 GE954.out GE956.out⟩⟩
   ·rw [if_neg k5] at H
    have d3:=e_f k5;have k7:=n_t k5;(first | rw [d3] | (simp only [i64_w,i32_w];rw [d3]) | skip)
    by_cases lT : aI = 1
    ·rw [if_pos lT] at H
     have k8:=e_t lT;have k9:=n_f lT;clear lT;replace H:=bS H;obtain ⟨CS,nC,H⟩:=H
     try dsimp only at H
     have F6:=A_ nC;clear nC
     by_cases AN : CS = true
     ·subst AN
      rw [if_pos rfl] at H;have H':=A_ H;clear H;have F7:=aD.out;have F8:=aG.out;obtain ⟨jS,jT,jU,jV,jW,jX,jY,jZ,j2,j3,j7,j8,j9,kA⟩:=C7 aB.out
      go_wp2_with (first | ((with_reducible refine gate_callee (f:=14) rfl ?_);refine gL 82 Try.func14 #[.int .i64 aO,.int .i64 0,.int .i64 4] ?_;(with_reducible refine (impl_within.calls aO 0 4 true _ F6.out).mono ?_);rintro e w' ⟨rfl,⟨nd,rfl⟩⟩;refine ⟨_,rfl,?_⟩))
      go_loopg [87] gR (fun kq G6 w' => ∃ (aP : Int),G6 = .int .i64 aP ∧ Aside0 (impl_tmplOk.l0 kq l0 a1 a3 a4 (aL.length : Int) 0 4 aL (aL.length : Int) aP aI aO aL aX aS l2_5 aK ((rd_T48 l0 a1).f0) ((rd_T48 l0 a1).f1) ((rd_T48 l0 a1).f2) ((rd_T48 l0 a1).f3.f0) ((rd_T48 l0 a1).f3.f1) ((rd_T48 l0 a1).f3.f2) ((rd_T48 l0 a1).f3.f3) ((rd_T48 l0 a1).f3.f4) ((rd_T48 l0 a1).f3.f5) ((rd_T48 l0 a1).f3.f6) = some r) ∧ Aside0 (kq ≤ gR) ∧ Aside0 (w'.heap[aJ]? = some (.cells #[.int .i64 aI,.int .i64 aO,(.slice a9 aL.length bA),(.slice bB aX.length bC),(.slice bD aS.length bE),(.slice b6 l2_5.length bF),(.slice bK aK.length bG)] 46 (0,0))) ∧ Aside0 (w'.heap[aF]? = some (.cells #[.int .i64 ((rd_T48 l0 a1).f0),(.slice A955_1 ((rd_T48 l0 a1).f1).length c955_1),(.slice A955_2 ((rd_T48 l0 a1).f2).length c955_2),.int .i64 ((rd_T48 l0 a1).f3.f0),.int .i64 ((rd_T48 l0 a1).f3.f1),(.slice A955_5 ((rd_T48 l0 a1).f3.f2).length c955_5),(.slice A955_6 ((rd_T48 l0 a1).f3.f3).length c955_6),(.slice A955_7 ((rd_T48 l0 a1).f3.f4).length c955_7),(.slice A955_8 ((rd_T48 l0 a1).f3.f5).length c955_8),(.slice aT ((rd_T48 l0 a1).f3.f6).length aU)] 48 (0,0))) ∧ Aside0 (Below w.heap.size w w'))
      case atStart => exact ⟨(0),Z22,H',⟨Nat.le_refl _⟩,⟨Z1 aB.out⟩,⟨Z1 aA.out⟩,⟨Z8 GE954.out GE956.out⟩⟩
      case round =>
       clear H' k5 d3 k7 k8 k9 jE jF jG jH jI jJ jK jS jT jU jV jW jX jY jL jM jN jO jP jQ jR jZ j2 j3 j7 j8 j9 kA;obtain ⟨aP,rfl,HA,HK3,aB,aA,HB⟩:=hrel
       cases gk with
       | zero => exact absurd HA.out (by simp [impl_tmplOk.l0])
       | succ k3 =>
        have H:=HA.out;clear HA;simp only [impl_tmplOk.l0] at H
        by_cases mO : aP < (aL.length : Int)
        ·rw [if_pos mO] at H
         have lA:=dt mO;clear mO
         by_cases AO : 0 ≤ aP
         ·rw [if_pos AO] at H
          have F9:=dt AO;clear AO
          by_cases AP : aP < (aL.length : Int)
          ·rw [if_pos AP] at H
           have GA:=dt AP;clear AP;replace H:=bS H;obtain ⟨CT,nD,H⟩:=H
           try dsimp only at H
           have nE:=A_ nD;clear nD
           by_cases AQ : CT = true
           ·subst AQ
            rw [if_pos rfl] at H
            by_cases mP : aP > 0
            ·rw [if_pos mP] at H
             have nF : decide (0 < aP) = true:=dt mP;clear mP;obtain ⟨d1,eN⟩ : ∃ j_ : Int,(wrap64 (aP - 1)) = j_:=⟨_,rfl⟩
             first | rw [eN] at H | simp only [eN] at H
             (try rw [eN] at nE);have CU : (IntKind.i64.wrap (aP - 1)) = d1:=(i64_w _).trans eN
             by_cases AR : 0 ≤ (d1)
             ·rw [if_pos AR] at H
              have GB:=dt AR;clear AR
              by_cases AS : (d1) < (aL.length : Int)
              ·rw [if_pos AS] at H
               have GC:=dt AS;clear AS
               by_cases mQ : (rd aL aP) ≤ (rd aL (d1))
               ·rw [if_pos mQ] at H
                have nG:=dt mQ;clear mQ;obtain rfl:=Option.some.inj H;have b7 : 0 ≤ (aP : Int):=odt;have b8 : aP < (aL.length : Int):=odt;obtain ⟨eO,eQ,a2⟩:=Kd.at_int d2.out aP b7 b8;cases eQ;replace a2:=ZC HB.out a2;replace b7:=eq_true b7;replace b8:=eq_true b8
                go_wp2_with (first | ((with_reducible refine gate_callee (f:=14) rfl ?_);refine gL 93 Try.func14 #[.int .i64 (rd aL aP),.int .i64 0,.int .i64 3] ?_;(with_reducible refine (impl_within.calls (rd aL aP) 0 3 true _ nE.out).mono ?_);rintro e w' ⟨rfl,⟨nd,rfl⟩⟩;refine ⟨_,rfl,?_⟩;have GD:=aD.out;have GE:=aG.out;obtain ⟨AT,AU,AV,AW,AX,AY,AZ,BA,BB,BC,BD,BE,BF,BG⟩:=C7 aB.out;have eR : 0 ≤ ((d1) : Int):=odt;have eS : (d1) < (aL.length : Int):=odt;obtain ⟨gS,lU,cO⟩:=Kd.at_int d2.out (d1) eR eS;obtain rfl : eO = gS:=(by injection lU);replace cO:=ZC HB.out cO;replace eR:=eq_true eR;replace eS:=eq_true eS))
                go_ret
                exact ⟨by first | rfl | (simp [errW_none,errW_some] <;> rfl) | (simp only [← eN];first | rfl | (simp [errW_none,errW_some] <;> rfl)) | (simp [*,errW_none,errW_some] <;> rfl),Z8 GE954.out GE956.out⟩
               ·rw [if_neg mQ] at H
                have nG:=df mQ;clear mQ;have H':=A_ H;clear H;have b7 : 0 ≤ (aP : Int):=odt;have b8 : aP < (aL.length : Int):=odt;obtain ⟨eO,eQ,a2⟩:=Kd.at_int d2.out aP b7 b8;cases eQ;replace a2:=ZC HB.out a2;replace b7:=eq_true b7;replace b8:=eq_true b8
                go_wp2_with (first | ((with_reducible refine gate_callee (f:=14) rfl ?_);refine gL 93 Try.func14 #[.int .i64 (rd aL aP),.int .i64 0,.int .i64 3] ?_;(with_reducible refine (impl_within.calls (rd aL aP) 0 3 true _ nE.out).mono ?_);rintro e w' ⟨rfl,⟨nd,rfl⟩⟩;refine ⟨_,rfl,?_⟩;have GF:=aD.out;have GG:=aG.out;obtain ⟨BH,BI,BJ,BK,BL,BM,BN,BO,BP,BQ,BR,BS,BT,BU⟩:=C7 aB.out;have eR : 0 ≤ ((d1) : Int):=odt;have eS : (d1) < (aL.length : Int):=odt;obtain ⟨gS,lU,cO⟩:=Kd.at_int d2.out (d1) eR eS;obtain rfl : eO = gS:=(by injection lU);replace cO:=ZC HB.out cO;replace eR:=eq_true eR;replace eS:=eq_true eS))
                go_roundg k3
                case measure => have:=a5.out;have:=bH.out;have:=HK3.out;omega
                case rel => exact ⟨(wrap64 (aP + 1)),Z22,H',⟨by have:=a5.out;have:=bH.out;have:=HK3.out;omega⟩,⟨Z1 aB.out⟩,⟨Z1 aA.out⟩,⟨Z8 GE954.out GE956.out⟩⟩
              ·rw [if_neg AS] at H
               exact absurd H (by simp)
             ·rw [if_neg AR] at H
              exact absurd H (by simp)
            ·rw [if_neg mP] at H
             have nF : decide (0 < aP) = false:=df mP;clear mP;have H':=A_ H;clear H;have b7 : 0 ≤ (aP : Int):=odt;have b8 : aP < (aL.length : Int):=odt;obtain ⟨eO,eQ,a2⟩:=Kd.at_int d2.out aP b7 b8;cases eQ;replace a2:=ZC HB.out a2;replace b7:=eq_true b7;replace b8:=eq_true b8
             go_wp2_with (first | ((with_reducible refine gate_callee (f:=14) rfl ?_);refine gL 93 Try.func14 #[.int .i64 (rd aL aP),.int .i64 0,.int .i64 3] ?_;(with_reducible refine (impl_within.calls (rd aL aP) 0 3 true _ nE.out).mono ?_);rintro e w' ⟨rfl,⟨nd,rfl⟩⟩;refine ⟨_,rfl,?_⟩))
             go_roundg k3
             case measure => have:=a5.out;have:=bH.out;have:=HK3.out;omega
             case rel => exact ⟨(wrap64 (aP + 1)),Z22,H',⟨by have:=a5.out;have:=bH.out;have:=HK3.out;omega⟩,⟨Z1 aB.out⟩,⟨Z1 aA.out⟩,⟨Z8 GE954.out GE956.out⟩⟩
           ·replace AQ:=Bool.eq_false_iff.mpr AQ
            subst AQ;rw [if_neg (show ¬ (false = true) by decide)] at H;obtain rfl:=Option.some.inj H;have b7 : 0 ≤ (aP : Int):=odt;have b8 : aP < (aL.length : Int):=odt;obtain ⟨eO,eQ,a2⟩:=Kd.at_int d2.out aP b7 b8;cases eQ;replace a2:=ZC HB.out a2;replace b7:=eq_true b7;replace b8:=eq_true b8
            go_wp2_with (first | ((with_reducible refine gate_callee (f:=14) rfl ?_);refine gL 93 Try.func14 #[.int .i64 (rd aL aP),.int .i64 0,.int .i64 3] ?_;(with_reducible refine (impl_within.calls (rd aL aP) 0 3 false _ nE.out).mono ?_);rintro e w' ⟨rfl,⟨nd,rfl⟩⟩;refine ⟨_,rfl,?_⟩))
            go_ret
            exact ⟨Z12,Z8 GE954.out GE956.out⟩
          ·rw [if_neg AP] at H
           exact absurd H (by simp)
         ·rw [if_neg AO] at H
          exact absurd H (by simp)
        ·rw [if_neg mO] at H
         have lA:=df mO;clear mO;have H':=A_ H;clear H;have GH:=aD.out;have GI:=aG.out;obtain ⟨kB,kC,kD,kE,kF,kG,kH,kI,kJ,kK,kL,kM,kN,kO⟩:=C7 aB.out
         go_wp2
         go_loopg [113] k3 (fun kq CV w' => ∃ (x113_4 : Int),CV = .int .i64 x113_4 ∧ Aside0 (impl_tmplOk.l1 kq l0 a1 a3 a4 (aL.length : Int) 0 4 l2_5 (l2_5.length : Int) x113_4 aI aO aL aX aS l2_5 aK ((rd_T48 l0 a1).f0) ((rd_T48 l0 a1).f1) ((rd_T48 l0 a1).f2) ((rd_T48 l0 a1).f3.f0) ((rd_T48 l0 a1).f3.f1) ((rd_T48 l0 a1).f3.f2) ((rd_T48 l0 a1).f3.f3) ((rd_T48 l0 a1).f3.f4) ((rd_T48 l0 a1).f3.f5) ((rd_T48 l0 a1).f3.f6) = some r) ∧ Aside0 (kq ≤ k3) ∧ Aside0 (w'.heap[aJ]? = some (.cells #[.int .i64 aI,.int .i64 aO,(.slice a9 aL.length bA),(.slice bB aX.length bC),(.slice bD aS.length bE),(.slice b6 l2_5.length bF),(.slice bK aK.length bG)] 46 (0,0))) ∧ Aside0 (w'.heap[aF]? = some (.cells #[.int .i64 ((rd_T48 l0 a1).f0),(.slice A955_1 ((rd_T48 l0 a1).f1).length c955_1),(.slice A955_2 ((rd_T48 l0 a1).f2).length c955_2),.int .i64 ((rd_T48 l0 a1).f3.f0),.int .i64 ((rd_T48 l0 a1).f3.f1),(.slice A955_5 ((rd_T48 l0 a1).f3.f2).length c955_5),(.slice A955_6 ((rd_T48 l0 a1).f3.f3).length c955_6),(.slice A955_7 ((rd_T48 l0 a1).f3.f4).length c955_7),(.slice A955_8 ((rd_T48 l0 a1).f3.f5).length c955_8),(.slice aT ((rd_T48 l0 a1).f3.f6).length aU)] 48 (0,0))) ∧ Aside0 (Below w.heap.size w w'))
         case atStart => exact ⟨(0),Z22,H',⟨Nat.le_refl _⟩,⟨Z1 aB.out⟩,⟨Z1 aA.out⟩,⟨Z8 GE954.out GE956.out⟩⟩
         case round =>
          clear H' lA kB kC kD kE kF kG kH kI kJ kK kL kM kN kO;obtain ⟨x113_4,rfl,HA,nH,aB,aA,HB⟩:=hrel
          cases gk with
          | zero => exact absurd HA.out (by simp [impl_tmplOk.l1])
          | succ k4 =>
           have H:=HA.out;clear HA;simp only [impl_tmplOk.l1] at H
           by_cases mR : x113_4 < (l2_5.length : Int)
           ·rw [if_pos mR] at H
            have nI:=dt mR;clear mR
            by_cases BV : 0 ≤ x113_4
            ·rw [if_pos BV] at H
             have GJ:=dt BV;clear BV
             by_cases BW : x113_4 < (l2_5.length : Int)
             ·rw [if_pos BW] at H
              have GK:=dt BW;clear BW;replace H:=bS H;obtain ⟨CW,nJ,H⟩:=H
              try dsimp only at H
              have lV:=A_ nJ;clear nJ
              by_cases BX : CW = true
              ·subst BX
               rw [if_pos rfl] at H
               by_cases mS : x113_4 > 0
               ·rw [if_pos mS] at H
                have nK : decide (0 < x113_4) = true:=dt mS;clear mS;obtain ⟨a6,d4⟩ : ∃ j_ : Int,(wrap64 (x113_4 - 1)) = j_:=⟨_,rfl⟩
                first | rw [d4] at H | simp only [d4] at H
                (try rw [d4] at lV);have CX : (IntKind.i64.wrap (x113_4 - 1)) = a6:=(i64_w _).trans d4
                by_cases BY : 0 ≤ (a6)
                ·rw [if_pos BY] at H
                 have GL:=dt BY;clear BY
                 by_cases BZ : (a6) < (l2_5.length : Int)
                 ·rw [if_pos BZ] at H
                  have GM:=dt BZ;clear BZ
                  by_cases mT : ((rd_T76 l2_5 x113_4).f0) ≤ ((rd_T76 l2_5 (a6)).f0)
                  ·rw [if_pos mT] at H
                   have nL:=dt mT;clear mT;obtain rfl:=Option.some.inj H;have bI : 0 ≤ (x113_4 : Int):=odt;have bJ : x113_4 < (l2_5.length : Int):=odt;obtain ⟨aY,dL,aQ,aR⟩:=at_T76 b9.out x113_4 bI bJ;cases dL;replace aQ:=ZC HB.out aQ;replace aR:=ZC HB.out aR;replace bI:=eq_true bI;replace bJ:=eq_true bJ
                   try go_wp2_with (first | ((with_reducible refine gate_dst (N:=18) rfl ?_);(try (refine gate_guard (by rfl) ?_;dsimp only));refine be (cs:=#[.int .i64 0,.int .i64 0]) (t:=76) ?_;intro aC hg nM hbox hb;have aE:=A_ hbox;have bT:=A_ (gl hg (bz (Z8 GE954.out GE956.out)));have GE962:=bT;replace HB:=A_ (bst (Z8 GE954.out GE956.out) hb);have aM:=A_ ((by rw [hg];exact nl (blk_lt (Z1 aB.out)) : aJ ≠ aC));have aV:=A_ ((by rw [hg];exact Nat.ne_of_gt (blk_lt (Z1 aB.out)) : aC ≠ aJ));replace aB:=A_ (bb (Z1 aB.out) hb);have aN:=A_ ((by rw [hg];exact nl (blk_lt (Z1 aA.out)) : aF ≠ aC));have aW:=A_ ((by rw [hg];exact Nat.ne_of_gt (blk_lt (Z1 aA.out)) : aC ≠ aF));replace aA:=A_ (bb (Z1 aA.out) hb);clear hb hbox hg;have GN:=aV.out;have GO:=aM.out;have GP:=aW.out;have GQ:=aN.out;obtain ⟨B0,B1,B2,B3⟩:=C2 aE.out))
                   have bL : Aside0 (((nM.setCell ⟨aC,0,none⟩ (.int .i64 ((rd_T76 l2_5 x113_4).f0))).setCell ⟨aC,1,none⟩ (.int .i64 ((rd_T76 l2_5 x113_4).f1))).heap[aJ]? = some (.cells #[.int .i64 aI,.int .i64 aO,.slice a9 aL.length bA,.slice bB aX.length bC,.slice bD aS.length bE,.slice (some aY) l2_5.length bF,.slice bK aK.length bG] 46 (0,0))):=⟨Z26 aM.out aB.out⟩;have bM : Aside0 (((nM.setCell ⟨aC,0,none⟩ (.int .i64 ((rd_T76 l2_5 x113_4).f0))).setCell ⟨aC,1,none⟩ (.int .i64 ((rd_T76 l2_5 x113_4).f1))).heap[aF]? = some (.cells #[.int .i64 ((rd_T48 l0 a1).f0),.slice A955_1 ((rd_T48 l0 a1).f1).length c955_1,.slice A955_2 ((rd_T48 l0 a1).f2).length c955_2,.int .i64 ((rd_T48 l0 a1).f3.f0),.int .i64 ((rd_T48 l0 a1).f3.f1),.slice A955_5 ((rd_T48 l0 a1).f3.f2).length c955_5,.slice A955_6 ((rd_T48 l0 a1).f3.f3).length c955_6,.slice A955_7 ((rd_T48 l0 a1).f3.f4).length c955_7,.slice A955_8 ((rd_T48 l0 a1).f3.f5).length c955_8,.slice aT ((rd_T48 l0 a1).f3.f6).length aU] 48 (0,0))):=⟨Z26 aN.out aA.out⟩;have bN : Aside0 (((nM.setCell ⟨aC,0,none⟩ (.int .i64 ((rd_T76 l2_5 x113_4).f0))).setCell ⟨aC,1,none⟩ (.int .i64 ((rd_T76 l2_5 x113_4).f1))).heap[aC]? = some (.cells #[.int .i64 ((rd_T76 l2_5 x113_4).f0),.int .i64 ((rd_T76 l2_5 x113_4).f1)] 76 (0,0))):=⟨Z36 aE.out⟩;have bO : Aside0 (Below w.heap.size w ((nM.setCell ⟨aC,0,none⟩ (.int .i64 ((rd_T76 l2_5 x113_4).f0))).setCell ⟨aC,1,none⟩ (.int .i64 ((rd_T76 l2_5 x113_4).f1)))):=⟨Z33⟩
                   (try clear aB);(try clear aA);(try clear aE);(try clear HB);generalize ((nM.setCell ⟨aC,0,none⟩ (.int .i64 ((rd_T76 l2_5 x113_4).f0))).setCell ⟨aC,1,none⟩ (.int .i64 ((rd_T76 l2_5 x113_4).f1))) = G7 at bL bM bN bO ⊢;have aB:=bL;have aA:=bM;have aE:=bN;have HB:=bO;clear bL bM bN bO;have bL:=A_ (blk_drew aB.out);have bM:=A_ (blk_drew aA.out);have bN:=A_ (blk_drew aE.out);have bO:=A_ (below_drew1 HB.out);clear aB aA aE HB;have aB:=bL;have aA:=bM;have aE:=bN;have HB:=bO;clear bL bM bN bO;have dM : 0 ≤ ((a6) : Int):=odt;have dN : (a6) < (l2_5.length : Int):=odt;obtain ⟨eP,gT,aZ,a0⟩:=at_T76 b9.out (a6) dM dN;have a7:=a0;have a8:=aZ;obtain rfl : aY = eP:=(by injection gT);replace aZ:=ZC HB.out aZ;replace a0:=ZC HB.out a0;replace dM:=eq_true dM;replace dN:=eq_true dN
                   refine start_ (n:=30) (S:=fun w' => w'.cell? ⟨aC,0,none⟩ = some (.int .i64 ((rd_T76 l2_5 x113_4).f0)) ∧ w'.cell? ⟨aC,1,none⟩ = some (.int .i64 ((rd_T76 l2_5 x113_4).f1)) ∧ P_7_ w' aJ (.int .i64 aI) (.int .i64 aO) (.slice a9 aL.length bA) (.slice bB aX.length bC) (.slice bD aS.length bE) (.slice (some aY) l2_5.length bF) (.slice bK aK.length bG) (w'.cell? (aY.add (((a6)).toNat * 2)) = some (.int .i64 ((rd_T76 l2_5 (a6)).f0)) ∧ w'.cell? ⟨(aY.add (((a6)).toNat * 2)).block,(aY.add (((a6)).toNat * 2)).off + 1,none⟩ = some (.int .i64 ((rd_T76 l2_5 (a6)).f1)))) (ds:=[]) M1 (by kernel_rfl) rfl rfl ⟨(bc aE.out 0).trans rfl,(bc aE.out 1).trans rfl,(D_7_ aB.out ⟨(ZC HB.out a8 :),(ZC HB.out a7 :)⟩)⟩ (fun hHeld => ?_);refine with_tabW impl_tmplOk.tab25 impl_tmplOk.bits25 (fun HT_ HW_ => ?_)
                   generalize G7.drew = HS at aB aA aE HB aZ a0 hHeld ⊢;refine pU 0 118 M2 ?_;refine take_ (i:=1) (N:=some 119) (v:=?_) (a':=?_) M3 rfl rfl (take_ofW HT_.out HW_.out (by kernel_rfl)) ZF (Or.inl ⟨by rfl,?_⟩) hHeld ?_ ?_;rotate_left
                   ·rintro w' ⟨s0,s1,s2,s3,s4,s5,s6,s7,s8,s9,s10⟩
                    go_simp
                    with_reducible rfl
                   rotate_left;(·exact Z0)
                   refine oU 2 (some 120) M4 (fun K hK => ?_)
                   refine goes_ Try.func14 (by kernel_rfl) rfl #[.int .i64 ((rd_T76 l2_5 x113_4).f0),.int .i64 0,.int .i64 2] (by rfl) rfl rfl Z25 ?_
                   with_reducible refine (impl_within.calls ((rd_T76 l2_5 x113_4).f0) 0 2 true _ lV.out).mono ?_
                   rintro e w' ⟨rfl,⟨nd,rfl⟩⟩
                   refine ⟨_,rfl,?_⟩
                   refine hK.out _ _ ⟨(bc aE.out 0).trans rfl,(bc aE.out 1).trans rfl,(D_7_ aB.out ⟨(ZC HB.out a8 :),(ZC HB.out a7 :)⟩)⟩ (fun hHeld => ?_)
                   clear hK K
                   refine norm_ (a':=?_) ?_ ?_
                   rotate_left;(·exact Z52);refine pU 3 121 M5 ?_;refine pU 4 122 M6 ?_;refine pU 5 123 M7 ?_;refine pU 6 124 M8 ?_;refine pU 7 125 M9 ?_;refine pU 8 126 M10 ?_;refine pU 10 128 M11 ?_;refine pU 12 130 M12 ?_;refine pU 13 131 M13 ?_;refine take_ (i:=9) (N:=some 127) (v:=?_) (a':=?_) M14 rfl rfl (take_ofW HT_.out HW_.out (by kernel_rfl)) ZF (Or.inl ⟨by rfl,?_⟩) hHeld ?_ ?_
                   rotate_left
                   ·rintro w' ⟨s0,s1,s2,s3,s4,s5,s6,s7,s8,s9,s10⟩
                    go_simp
                    with_reducible rfl
                   rotate_left;(·exact Z0);refine take_ (i:=11) (N:=some 129) (v:=?_) (a':=?_) M15 rfl rfl (take_ofW HT_.out HW_.out (by kernel_rfl)) ZF (Or.inl ⟨by rfl,?_⟩) hHeld ?_ ?_
                   rotate_left
                   ·rintro w' ⟨s0,s1,s2,s3,s4,s5,s6,s7,s8,s9,s10⟩
                    go_simp
                    with_reducible rfl
                   rotate_left;(·exact Z0);refine pU 14 132 M16 ?_;refine pU 15 133 M17 ?_;refine take_ (i:=16) (N:=some 134) (v:=?_) (a':=?_) M18 rfl rfl (take_ofW HT_.out HW_.out (by kernel_rfl)) ZF (Or.inl ⟨by rfl,?_⟩) hHeld ?_ ?_
                   rotate_left
                   ·rintro w' ⟨s0,s1,s2,s3,s4,s5,s6,s7,s8,s9,s10⟩
                    go_simp
                    with_reducible rfl
                   rotate_left;(·exact Z0);refine pU 17 135 M19 ?_;refine pU 18 136 M20 ?_;refine pU 19 137 M21 ?_;refine pU 20 138 M22 ?_;refine pN 21 139 M23 ?_;refine pN 22 140 M24 ?_;refine pN 23 141 M25 ?_;refine pN 24 142 M26 ?_;refine pN 25 143 M27 ?_;refine pN 26 144 M28 ?_;refine pN 27 145 M29 ?_;refine pN 28 146 M30 ?_;refine pU 29 147 M31 ?_
                   refine done_ (done_of HT_.out (by kernel_rfl)) ?_
                   try go_wp2
                   go_ret
                   exact ⟨by first | rfl | (simp [errW_none,errW_some] <;> rfl) | (simp only [← d4];first | rfl | (simp [errW_none,errW_some] <;> rfl)) | (simp [*,errW_none,errW_some] <;> rfl),Z33⟩
                  ·rw [if_neg mT] at H
                   have nL:=df mT;clear mT;replace H:=bS H;obtain ⟨CY,nN,H⟩:=H
                   try dsimp only at H
                   have GR:=A_ nN;clear nN
                   by_cases B4 : CY = true
                   ·subst B4
                    rw [if_pos rfl] at H;have H':=A_ H;clear H;have bI : 0 ≤ (x113_4 : Int):=odt;have bJ : x113_4 < (l2_5.length : Int):=odt;obtain ⟨aY,dL,aQ,aR⟩:=at_T76 b9.out x113_4 bI bJ;cases dL;replace aQ:=ZC HB.out aQ;replace aR:=ZC HB.out aR;replace bI:=eq_true bI;replace bJ:=eq_true bJ
                    try go_wp2_with (first | ((with_reducible refine gate_dst (N:=18) rfl ?_);(try (refine gate_guard (by rfl) ?_;dsimp only));refine be (cs:=#[.int .i64 0,.int .i64 0]) (t:=76) ?_;intro aC hg nO hbox hb;have aE:=A_ hbox;have bT:=A_ (gl hg (bz (Z8 GE954.out GE956.out)));have GE962:=bT;replace HB:=A_ (bst (Z8 GE954.out GE956.out) hb);have aM:=A_ ((by rw [hg];exact nl (blk_lt (Z1 aB.out)) : aJ ≠ aC));have aV:=A_ ((by rw [hg];exact Nat.ne_of_gt (blk_lt (Z1 aB.out)) : aC ≠ aJ));replace aB:=A_ (bb (Z1 aB.out) hb);have aN:=A_ ((by rw [hg];exact nl (blk_lt (Z1 aA.out)) : aF ≠ aC));have aW:=A_ ((by rw [hg];exact Nat.ne_of_gt (blk_lt (Z1 aA.out)) : aC ≠ aF));replace aA:=A_ (bb (Z1 aA.out) hb);clear hb hbox hg;have GS:=aV.out;have GT:=aM.out;have GU:=aW.out;have GV:=aN.out;obtain ⟨B5,B6,B7,B8⟩:=C2 aE.out))
                    have bL : Aside0 (((nO.setCell ⟨aC,0,none⟩ (.int .i64 ((rd_T76 l2_5 x113_4).f0))).setCell ⟨aC,1,none⟩ (.int .i64 ((rd_T76 l2_5 x113_4).f1))).heap[aJ]? = some (.cells #[.int .i64 aI,.int .i64 aO,.slice a9 aL.length bA,.slice bB aX.length bC,.slice bD aS.length bE,.slice (some aY) l2_5.length bF,.slice bK aK.length bG] 46 (0,0))):=⟨Z26 aM.out aB.out⟩;have bM : Aside0 (((nO.setCell ⟨aC,0,none⟩ (.int .i64 ((rd_T76 l2_5 x113_4).f0))).setCell ⟨aC,1,none⟩ (.int .i64 ((rd_T76 l2_5 x113_4).f1))).heap[aF]? = some (.cells #[.int .i64 ((rd_T48 l0 a1).f0),.slice A955_1 ((rd_T48 l0 a1).f1).length c955_1,.slice A955_2 ((rd_T48 l0 a1).f2).length c955_2,.int .i64 ((rd_T48 l0 a1).f3.f0),.int .i64 ((rd_T48 l0 a1).f3.f1),.slice A955_5 ((rd_T48 l0 a1).f3.f2).length c955_5,.slice A955_6 ((rd_T48 l0 a1).f3.f3).length c955_6,.slice A955_7 ((rd_T48 l0 a1).f3.f4).length c955_7,.slice A955_8 ((rd_T48 l0 a1).f3.f5).length c955_8,.slice aT ((rd_T48 l0 a1).f3.f6).length aU] 48 (0,0))):=⟨Z26 aN.out aA.out⟩;have bN : Aside0 (((nO.setCell ⟨aC,0,none⟩ (.int .i64 ((rd_T76 l2_5 x113_4).f0))).setCell ⟨aC,1,none⟩ (.int .i64 ((rd_T76 l2_5 x113_4).f1))).heap[aC]? = some (.cells #[.int .i64 ((rd_T76 l2_5 x113_4).f0),.int .i64 ((rd_T76 l2_5 x113_4).f1)] 76 (0,0))):=⟨Z36 aE.out⟩;have bO : Aside0 (Below w.heap.size w ((nO.setCell ⟨aC,0,none⟩ (.int .i64 ((rd_T76 l2_5 x113_4).f0))).setCell ⟨aC,1,none⟩ (.int .i64 ((rd_T76 l2_5 x113_4).f1)))):=⟨Z33⟩
                    (try clear aB);(try clear aA);(try clear aE);(try clear HB);generalize ((nO.setCell ⟨aC,0,none⟩ (.int .i64 ((rd_T76 l2_5 x113_4).f0))).setCell ⟨aC,1,none⟩ (.int .i64 ((rd_T76 l2_5 x113_4).f1))) = G8 at bL bM bN bO ⊢;have aB:=bL;have aA:=bM;have aE:=bN;have HB:=bO;clear bL bM bN bO;have bL:=A_ (blk_drew aB.out);have bM:=A_ (blk_drew aA.out);have bN:=A_ (blk_drew aE.out);have bO:=A_ (below_drew1 HB.out);clear aB aA aE HB;have aB:=bL;have aA:=bM;have aE:=bN;have HB:=bO;clear bL bM bN bO;have dM : 0 ≤ ((a6) : Int):=odt;have dN : (a6) < (l2_5.length : Int):=odt;obtain ⟨eP,gT,aZ,a0⟩:=at_T76 b9.out (a6) dM dN;have a7:=a0;have a8:=aZ;obtain rfl : aY = eP:=(by injection gT);replace aZ:=ZC HB.out aZ;replace a0:=ZC HB.out a0;replace dM:=eq_true dM;replace dN:=eq_true dN
                    refine start_ (n:=30) (S:=fun w' => w'.cell? ⟨aC,0,none⟩ = some (.int .i64 ((rd_T76 l2_5 x113_4).f0)) ∧ w'.cell? ⟨aC,1,none⟩ = some (.int .i64 ((rd_T76 l2_5 x113_4).f1)) ∧ P_7_ w' aJ (.int .i64 aI) (.int .i64 aO) (.slice a9 aL.length bA) (.slice bB aX.length bC) (.slice bD aS.length bE) (.slice (some aY) l2_5.length bF) (.slice bK aK.length bG) (P_10_ w' aF (.int .i64 ((rd_T48 l0 a1).f0)) (.slice A955_1 ((rd_T48 l0 a1).f1).length c955_1) (.slice A955_2 ((rd_T48 l0 a1).f2).length c955_2) (.int .i64 ((rd_T48 l0 a1).f3.f0)) (.int .i64 ((rd_T48 l0 a1).f3.f1)) (.slice A955_5 ((rd_T48 l0 a1).f3.f2).length c955_5) (.slice A955_6 ((rd_T48 l0 a1).f3.f3).length c955_6) (.slice A955_7 ((rd_T48 l0 a1).f3.f4).length c955_7) (.slice A955_8 ((rd_T48 l0 a1).f3.f5).length c955_8) (.slice aT ((rd_T48 l0 a1).f3.f6).length aU) (w'.cell? (aY.add (((a6)).toNat * 2)) = some (.int .i64 ((rd_T76 l2_5 (a6)).f0)) ∧ w'.cell? ⟨(aY.add (((a6)).toNat * 2)).block,(aY.add (((a6)).toNat * 2)).off + 1,none⟩ = some (.int .i64 ((rd_T76 l2_5 (a6)).f1))))) (ds:=[]) M1 (by kernel_rfl) rfl rfl ⟨(bc aE.out 0).trans rfl,(bc aE.out 1).trans rfl,(D_7_ aB.out (D_10_ aA.out ⟨(ZC HB.out a8 :),(ZC HB.out a7 :)⟩))⟩ (fun hHeld => ?_);refine with_tabW impl_tmplOk.tab25 impl_tmplOk.bits25 (fun HT_ HW_ => ?_)
                    generalize G8.drew = HT at aB aA aE HB aZ a0 hHeld ⊢;refine pU 0 118 M2 ?_;refine tU 1 119 M3 ?_ (y:=Z42)
                    refine oU 2 (some 120) M4 (fun K hK => ?_)
                    refine goes_ Try.func14 (by kernel_rfl) rfl #[.int .i64 ((rd_T76 l2_5 x113_4).f0),.int .i64 0,.int .i64 2] (by rfl) rfl rfl Z25 ?_
                    with_reducible refine (impl_within.calls ((rd_T76 l2_5 x113_4).f0) 0 2 true _ lV.out).mono ?_
                    rintro e w' ⟨rfl,⟨nd,rfl⟩⟩
                    refine ⟨_,rfl,?_⟩
                    refine hK.out _ _ ⟨(bc aE.out 0).trans rfl,(bc aE.out 1).trans rfl,(D_7_ aB.out (D_10_ aA.out ⟨(ZC HB.out a8 :),(ZC HB.out a7 :)⟩))⟩ (fun hHeld => ?_)
                    clear hK K
                    refine norm_ (a':=?_) ?_ ?_
                    rotate_left;(·exact Z52);refine pU 3 121 M5 ?_;refine pU 4 122 M6 ?_;refine pU 5 123 M7 ?_;refine pU 6 124 M8 ?_;refine pU 7 125 M9 ?_;refine pU 8 126 M10 ?_;refine pU 10 128 M11 ?_;refine pU 12 130 M12 ?_;refine pU 13 131 M13 ?_;refine tU 9 127 M14 ?_ (y:=Z42);refine tU 11 129 M15 ?_ (y:=Z42);refine pU 14 132 M16 ?_;refine pU 15 133 M17 ?_;refine tU 16 134 M18 ?_ (y:=Z42);refine pU 17 135 M19 ?_;refine pU 18 136 M20 ?_;refine pU 19 137 M21 ?_;refine pU 20 138 M22 ?_;refine pU 21 139 M23 ?_;refine pU 23 141 M32 ?_;refine tU 22 140 M25 ?_ (y:=Z42);refine tU 24 142 M26 ?_ (y:=Z42);refine pU 25 143 M27 ?_;refine pU 26 144 M28 ?_
                    refine oU 27 (some 145) M29 (fun K hK => ?_)
                    refine goes_ Try.func14 (by kernel_rfl) rfl #[.int .i64 ((rd_T76 l2_5 x113_4).f1),.int .i64 0,.int .i64 (wrap64 ((((rd_T48 l0 a1).f2).length : Int) - 1))] (by rfl) rfl rfl Z25 ?_
                    with_reducible refine (impl_within.calls ((rd_T76 l2_5 x113_4).f1) 0 (wrap64 ((((rd_T48 l0 a1).f2).length : Int) - 1)) true _ GR.out).mono ?_
                    rintro e w' ⟨rfl,⟨nd,rfl⟩⟩
                    refine ⟨_,rfl,?_⟩
                    refine hK.out _ _ ⟨(bc aE.out 0).trans rfl,(bc aE.out 1).trans rfl,(D_7_ aB.out (D_10_ aA.out ⟨(ZC HB.out a8 :),(ZC HB.out a7 :)⟩))⟩ (fun hHeld => ?_)
                    clear hK K
                    refine norm_ (a':=?_) ?_ ?_
                    rotate_left;(·exact Z63);refine pU 28 146 M30 ?_;refine pU 29 147 M31 ?_
                    refine done_ (done_of HT_.out (by kernel_rfl)) ?_
                    try go_wp2
                    go_roundg k4
                    case measure => have:=a5.out;have:=bH.out;have:=HK3.out;have:=nH.out;omega
                    case rel => exact ⟨(wrap64 (x113_4 + 1)),Z22,H',⟨by have:=a5.out;have:=bH.out;have:=HK3.out;have:=nH.out;omega⟩,⟨Z1 aB.out⟩,⟨Z1 aA.out⟩,⟨Z33⟩⟩
                   ·replace B4:=Bool.eq_false_iff.mpr B4
                    subst B4;rw [if_neg (show ¬ (false = true) by decide)] at H;obtain rfl:=Option.some.inj H;have bI : 0 ≤ (x113_4 : Int):=odt;have bJ : x113_4 < (l2_5.length : Int):=odt;obtain ⟨aY,dL,aQ,aR⟩:=at_T76 b9.out x113_4 bI bJ;cases dL;replace aQ:=ZC HB.out aQ;replace aR:=ZC HB.out aR;replace bI:=eq_true bI;replace bJ:=eq_true bJ
                    try go_wp2_with (first | ((with_reducible refine gate_dst (N:=18) rfl ?_);(try (refine gate_guard (by rfl) ?_;dsimp only));refine be (cs:=#[.int .i64 0,.int .i64 0]) (t:=76) ?_;intro aC hg nP hbox hb;have aE:=A_ hbox;have bT:=A_ (gl hg (bz (Z8 GE954.out GE956.out)));have GE962:=bT;replace HB:=A_ (bst (Z8 GE954.out GE956.out) hb);have aM:=A_ ((by rw [hg];exact nl (blk_lt (Z1 aB.out)) : aJ ≠ aC));have aV:=A_ ((by rw [hg];exact Nat.ne_of_gt (blk_lt (Z1 aB.out)) : aC ≠ aJ));replace aB:=A_ (bb (Z1 aB.out) hb);have aN:=A_ ((by rw [hg];exact nl (blk_lt (Z1 aA.out)) : aF ≠ aC));have aW:=A_ ((by rw [hg];exact Nat.ne_of_gt (blk_lt (Z1 aA.out)) : aC ≠ aF));replace aA:=A_ (bb (Z1 aA.out) hb);clear hb hbox hg;have GW:=aV.out;have GX:=aM.out;have CZ:=aW.out;have C0:=aN.out;obtain ⟨nQ,nR,nS,nT⟩:=C2 aE.out))
                    have bL : Aside0 (((nP.setCell ⟨aC,0,none⟩ (.int .i64 ((rd_T76 l2_5 x113_4).f0))).setCell ⟨aC,1,none⟩ (.int .i64 ((rd_T76 l2_5 x113_4).f1))).heap[aJ]? = some (.cells #[.int .i64 aI,.int .i64 aO,.slice a9 aL.length bA,.slice bB aX.length bC,.slice bD aS.length bE,.slice (some aY) l2_5.length bF,.slice bK aK.length bG] 46 (0,0))):=⟨Z26 aM.out aB.out⟩;have bM : Aside0 (((nP.setCell ⟨aC,0,none⟩ (.int .i64 ((rd_T76 l2_5 x113_4).f0))).setCell ⟨aC,1,none⟩ (.int .i64 ((rd_T76 l2_5 x113_4).f1))).heap[aF]? = some (.cells #[.int .i64 ((rd_T48 l0 a1).f0),.slice A955_1 ((rd_T48 l0 a1).f1).length c955_1,.slice A955_2 ((rd_T48 l0 a1).f2).length c955_2,.int .i64 ((rd_T48 l0 a1).f3.f0),.int .i64 ((rd_T48 l0 a1).f3.f1),.slice A955_5 ((rd_T48 l0 a1).f3.f2).length c955_5,.slice A955_6 ((rd_T48 l0 a1).f3.f3).length c955_6,.slice A955_7 ((rd_T48 l0 a1).f3.f4).length c955_7,.slice A955_8 ((rd_T48 l0 a1).f3.f5).length c955_8,.slice aT ((rd_T48 l0 a1).f3.f6).length aU] 48 (0,0))):=⟨Z26 aN.out aA.out⟩;have bN : Aside0 (((nP.setCell ⟨aC,0,none⟩ (.int .i64 ((rd_T76 l2_5 x113_4).f0))).setCell ⟨aC,1,none⟩ (.int .i64 ((rd_T76 l2_5 x113_4).f1))).heap[aC]? = some (.cells #[.int .i64 ((rd_T76 l2_5 x113_4).f0),.int .i64 ((rd_T76 l2_5 x113_4).f1)] 76 (0,0))):=⟨Z36 aE.out⟩;have bO : Aside0 (Below w.heap.size w ((nP.setCell ⟨aC,0,none⟩ (.int .i64 ((rd_T76 l2_5 x113_4).f0))).setCell ⟨aC,1,none⟩ (.int .i64 ((rd_T76 l2_5 x113_4).f1)))):=⟨Z33⟩
                    (try clear aB);(try clear aA);(try clear aE);(try clear HB);generalize ((nP.setCell ⟨aC,0,none⟩ (.int .i64 ((rd_T76 l2_5 x113_4).f0))).setCell ⟨aC,1,none⟩ (.int .i64 ((rd_T76 l2_5 x113_4).f1))) = C1 at bL bM bN bO ⊢;have aB:=bL;have aA:=bM;have aE:=bN;have HB:=bO;clear bL bM bN bO;have bL:=A_ (blk_drew aB.out);have bM:=A_ (blk_drew aA.out);have bN:=A_ (blk_drew aE.out);have bO:=A_ (below_drew1 HB.out);clear aB aA aE HB;have aB:=bL;have aA:=bM;have aE:=bN;have HB:=bO;clear bL bM bN bO;have dM : 0 ≤ ((a6) : Int):=odt;have dN : (a6) < (l2_5.length : Int):=odt;obtain ⟨eP,gT,aZ,a0⟩:=at_T76 b9.out (a6) dM dN;have a7:=a0;have a8:=aZ;obtain rfl : aY = eP:=(by injection gT);replace aZ:=ZC HB.out aZ;replace a0:=ZC HB.out a0;replace dM:=eq_true dM;replace dN:=eq_true dN
                    refine start_ (n:=30) (S:=fun w' => w'.cell? ⟨aC,0,none⟩ = some (.int .i64 ((rd_T76 l2_5 x113_4).f0)) ∧ w'.cell? ⟨aC,1,none⟩ = some (.int .i64 ((rd_T76 l2_5 x113_4).f1)) ∧ P_7_ w' aJ (.int .i64 aI) (.int .i64 aO) (.slice a9 aL.length bA) (.slice bB aX.length bC) (.slice bD aS.length bE) (.slice (some aY) l2_5.length bF) (.slice bK aK.length bG) (P_10_ w' aF (.int .i64 ((rd_T48 l0 a1).f0)) (.slice A955_1 ((rd_T48 l0 a1).f1).length c955_1) (.slice A955_2 ((rd_T48 l0 a1).f2).length c955_2) (.int .i64 ((rd_T48 l0 a1).f3.f0)) (.int .i64 ((rd_T48 l0 a1).f3.f1)) (.slice A955_5 ((rd_T48 l0 a1).f3.f2).length c955_5) (.slice A955_6 ((rd_T48 l0 a1).f3.f3).length c955_6) (.slice A955_7 ((rd_T48 l0 a1).f3.f4).length c955_7) (.slice A955_8 ((rd_T48 l0 a1).f3.f5).length c955_8) (.slice aT ((rd_T48 l0 a1).f3.f6).length aU) (w'.cell? (aY.add (((a6)).toNat * 2)) = some (.int .i64 ((rd_T76 l2_5 (a6)).f0)) ∧ w'.cell? ⟨(aY.add (((a6)).toNat * 2)).block,(aY.add (((a6)).toNat * 2)).off + 1,none⟩ = some (.int .i64 ((rd_T76 l2_5 (a6)).f1))))) (ds:=[]) M1 (by kernel_rfl) rfl rfl ⟨(bc aE.out 0).trans rfl,(bc aE.out 1).trans rfl,(D_7_ aB.out (D_10_ aA.out ⟨(ZC HB.out a8 :),(ZC HB.out a7 :)⟩))⟩ (fun hHeld => ?_);refine with_tabW impl_tmplOk.tab25 impl_tmplOk.bits25 (fun HT_ HW_ => ?_)
                    generalize C1.drew = G9 at aB aA aE HB aZ a0 hHeld ⊢;refine pU 0 118 M2 ?_;refine tU 1 119 M3 ?_ (y:=Z42)
                    refine oU 2 (some 120) M4 (fun K hK => ?_)
                    refine goes_ Try.func14 (by kernel_rfl) rfl #[.int .i64 ((rd_T76 l2_5 x113_4).f0),.int .i64 0,.int .i64 2] (by rfl) rfl rfl Z25 ?_
                    with_reducible refine (impl_within.calls ((rd_T76 l2_5 x113_4).f0) 0 2 true _ lV.out).mono ?_
                    rintro e w' ⟨rfl,⟨nd,rfl⟩⟩
                    refine ⟨_,rfl,?_⟩
                    refine hK.out _ _ ⟨(bc aE.out 0).trans rfl,(bc aE.out 1).trans rfl,(D_7_ aB.out (D_10_ aA.out ⟨(ZC HB.out a8 :),(ZC HB.out a7 :)⟩))⟩ (fun hHeld => ?_)
                    clear hK K
                    refine norm_ (a':=?_) ?_ ?_
                    rotate_left;(·exact Z52);refine pU 3 121 M5 ?_;refine pU 4 122 M6 ?_;refine pU 5 123 M7 ?_;refine pU 6 124 M8 ?_;refine pU 7 125 M9 ?_;refine pU 8 126 M10 ?_;refine pU 10 128 M11 ?_;refine pU 12 130 M12 ?_;refine pU 13 131 M13 ?_;refine tU 9 127 M14 ?_ (y:=Z42);refine tU 11 129 M15 ?_ (y:=Z42);refine pU 14 132 M16 ?_;refine pU 15 133 M17 ?_;refine tU 16 134 M18 ?_ (y:=Z42);refine pU 17 135 M19 ?_;refine pU 18 136 M20 ?_;refine pU 19 137 M21 ?_;refine pU 20 138 M22 ?_;refine pU 21 139 M23 ?_;refine pU 23 141 M32 ?_;refine tU 22 140 M25 ?_ (y:=Z42);refine tU 24 142 M26 ?_ (y:=Z42);refine pU 25 143 M27 ?_;refine pU 26 144 M28 ?_
                    refine oU 27 (some 145) M29 (fun K hK => ?_)
                    refine goes_ Try.func14 (by kernel_rfl) rfl #[.int .i64 ((rd_T76 l2_5 x113_4).f1),.int .i64 0,.int .i64 (wrap64 ((((rd_T48 l0 a1).f2).length : Int) - 1))] (by rfl) rfl rfl Z25 ?_
                    with_reducible refine (impl_within.calls ((rd_T76 l2_5 x113_4).f1) 0 (wrap64 ((((rd_T48 l0 a1).f2).length : Int) - 1)) false _ GR.out).mono ?_
                    rintro e w' ⟨rfl,⟨nd,rfl⟩⟩
                    refine ⟨_,rfl,?_⟩
                    refine hK.out _ _ ⟨(bc aE.out 0).trans rfl,(bc aE.out 1).trans rfl,(D_7_ aB.out (D_10_ aA.out ⟨(ZC HB.out a8 :),(ZC HB.out a7 :)⟩))⟩ (fun hHeld => ?_)
                    clear hK K
                    refine norm_ (a':=?_) ?_ ?_
                    rotate_left;(·exact Z63);refine pU 28 146 M30 ?_;refine pU 29 147 M31 ?_
                    refine done_ (done_of HT_.out (by kernel_rfl)) ?_
                    try go_wp2
                    go_ret
                    exact ⟨by first | rfl | (simp [errW_none,errW_some] <;> rfl) | (simp only [← d4];first | rfl | (simp [errW_none,errW_some] <;> rfl)) | (simp [*,errW_none,errW_some] <;> rfl),Z33⟩
                 ·rw [if_neg BZ] at H
                  exact absurd H (by simp)
                ·rw [if_neg BY] at H
                 exact absurd H (by simp)
               ·rw [if_neg mS] at H
                have nK : decide (0 < x113_4) = false:=df mS;clear mS;replace H:=bS H;obtain ⟨C4,lB,H⟩:=H
                try dsimp only at H
                have nU:=A_ lB;clear lB
                by_cases kP : C4 = true
                ·subst kP
                 rw [if_pos rfl] at H;have H':=A_ H;clear H;have bI : 0 ≤ (x113_4 : Int):=odt;have bJ : x113_4 < (l2_5.length : Int):=odt;obtain ⟨aY,dL,aQ,aR⟩:=at_T76 b9.out x113_4 bI bJ;cases dL;replace aQ:=ZC HB.out aQ;replace aR:=ZC HB.out aR;replace bI:=eq_true bI;replace bJ:=eq_true bJ
                 try go_wp2_with (first | ((with_reducible refine gate_dst (N:=18) rfl ?_);(try (refine gate_guard (by rfl) ?_;dsimp only));refine be (cs:=#[.int .i64 0,.int .i64 0]) (t:=76) ?_;intro aC hg gU hbox hb;have aE:=A_ hbox;have bT:=A_ (gl hg (bz (Z8 GE954.out GE956.out)));have GE962:=bT;replace HB:=A_ (bst (Z8 GE954.out GE956.out) hb);have aM:=A_ ((by rw [hg];exact nl (blk_lt (Z1 aB.out)) : aJ ≠ aC));have aV:=A_ ((by rw [hg];exact Nat.ne_of_gt (blk_lt (Z1 aB.out)) : aC ≠ aJ));replace aB:=A_ (bb (Z1 aB.out) hb);have aN:=A_ ((by rw [hg];exact nl (blk_lt (Z1 aA.out)) : aF ≠ aC));have aW:=A_ ((by rw [hg];exact Nat.ne_of_gt (blk_lt (Z1 aA.out)) : aC ≠ aF));replace aA:=A_ (bb (Z1 aA.out) hb);clear hb hbox hg;have C6:=aV.out;have C8:=aM.out;have C9:=aW.out;have DA:=aN.out;obtain ⟨nV,nW,nX,nY⟩:=C2 aE.out))
                 have bL : Aside0 (((gU.setCell ⟨aC,0,none⟩ (.int .i64 ((rd_T76 l2_5 x113_4).f0))).setCell ⟨aC,1,none⟩ (.int .i64 ((rd_T76 l2_5 x113_4).f1))).heap[aJ]? = some (.cells #[.int .i64 aI,.int .i64 aO,.slice a9 aL.length bA,.slice bB aX.length bC,.slice bD aS.length bE,.slice (some aY) l2_5.length bF,.slice bK aK.length bG] 46 (0,0))):=⟨Z26 aM.out aB.out⟩;have bM : Aside0 (((gU.setCell ⟨aC,0,none⟩ (.int .i64 ((rd_T76 l2_5 x113_4).f0))).setCell ⟨aC,1,none⟩ (.int .i64 ((rd_T76 l2_5 x113_4).f1))).heap[aF]? = some (.cells #[.int .i64 ((rd_T48 l0 a1).f0),.slice A955_1 ((rd_T48 l0 a1).f1).length c955_1,.slice A955_2 ((rd_T48 l0 a1).f2).length c955_2,.int .i64 ((rd_T48 l0 a1).f3.f0),.int .i64 ((rd_T48 l0 a1).f3.f1),.slice A955_5 ((rd_T48 l0 a1).f3.f2).length c955_5,.slice A955_6 ((rd_T48 l0 a1).f3.f3).length c955_6,.slice A955_7 ((rd_T48 l0 a1).f3.f4).length c955_7,.slice A955_8 ((rd_T48 l0 a1).f3.f5).length c955_8,.slice aT ((rd_T48 l0 a1).f3.f6).length aU] 48 (0,0))):=⟨Z26 aN.out aA.out⟩;have bN : Aside0 (((gU.setCell ⟨aC,0,none⟩ (.int .i64 ((rd_T76 l2_5 x113_4).f0))).setCell ⟨aC,1,none⟩ (.int .i64 ((rd_T76 l2_5 x113_4).f1))).heap[aC]? = some (.cells #[.int .i64 ((rd_T76 l2_5 x113_4).f0),.int .i64 ((rd_T76 l2_5 x113_4).f1)] 76 (0,0))):=⟨Z36 aE.out⟩;have bO : Aside0 (Below w.heap.size w ((gU.setCell ⟨aC,0,none⟩ (.int .i64 ((rd_T76 l2_5 x113_4).f0))).setCell ⟨aC,1,none⟩ (.int .i64 ((rd_T76 l2_5 x113_4).f1)))):=⟨Z33⟩
                 (try clear aB);(try clear aA);(try clear aE);(try clear HB);generalize ((gU.setCell ⟨aC,0,none⟩ (.int .i64 ((rd_T76 l2_5 x113_4).f0))).setCell ⟨aC,1,none⟩ (.int .i64 ((rd_T76 l2_5 x113_4).f1))) = DB at bL bM bN bO ⊢;have aB:=bL;have aA:=bM;have aE:=bN;have HB:=bO;clear bL bM bN bO;have bL:=A_ (blk_drew aB.out);have bM:=A_ (blk_drew aA.out);have bN:=A_ (blk_drew aE.out);have bO:=A_ (below_drew1 HB.out);clear aB aA aE HB;have aB:=bL;have aA:=bM;have aE:=bN;have HB:=bO;clear bL bM bN bO
                 refine start_ (n:=30) (S:=fun w' => w'.cell? ⟨aC,0,none⟩ = some (.int .i64 ((rd_T76 l2_5 x113_4).f0)) ∧ w'.cell? ⟨aC,1,none⟩ = some (.int .i64 ((rd_T76 l2_5 x113_4).f1)) ∧ P_10 w' aF (.int .i64 ((rd_T48 l0 a1).f0)) (.slice A955_1 ((rd_T48 l0 a1).f1).length c955_1) (.slice A955_2 ((rd_T48 l0 a1).f2).length c955_2) (.int .i64 ((rd_T48 l0 a1).f3.f0)) (.int .i64 ((rd_T48 l0 a1).f3.f1)) (.slice A955_5 ((rd_T48 l0 a1).f3.f2).length c955_5) (.slice A955_6 ((rd_T48 l0 a1).f3.f3).length c955_6) (.slice A955_7 ((rd_T48 l0 a1).f3.f4).length c955_7) (.slice A955_8 ((rd_T48 l0 a1).f3.f5).length c955_8) (.slice aT ((rd_T48 l0 a1).f3.f6).length aU)) (ds:=[]) M1 (by kernel_rfl) rfl rfl ⟨(bc aE.out 0).trans rfl,(bc aE.out 1).trans rfl,(D_10 aA.out)⟩ (fun hHeld => ?_);refine with_tabW impl_tmplOk.tab25 impl_tmplOk.bits25 (fun HT_ HW_ => ?_)
                 generalize DB.drew = HC at aB aA aE HB hHeld ⊢;refine pU 0 118 M2 ?_;refine tU 1 119 M3 ?_ (y:=Z64)
                 refine oU 2 (some 120) M4 (fun K hK => ?_)
                 refine goes_ Try.func14 (by kernel_rfl) rfl #[.int .i64 ((rd_T76 l2_5 x113_4).f0),.int .i64 0,.int .i64 2] (by rfl) rfl rfl Z25 ?_
                 with_reducible refine (impl_within.calls ((rd_T76 l2_5 x113_4).f0) 0 2 true _ lV.out).mono ?_
                 rintro e w' ⟨rfl,⟨nd,rfl⟩⟩
                 refine ⟨_,rfl,?_⟩
                 refine hK.out _ _ ⟨(bc aE.out 0).trans rfl,(bc aE.out 1).trans rfl,(D_10 aA.out)⟩ (fun hHeld => ?_)
                 clear hK K
                 refine norm_ (a':=?_) ?_ ?_
                 rotate_left;(·exact Z52);refine pU 3 121 M5 ?_;refine pU 4 122 M6 ?_;refine pU 5 123 M7 ?_;refine pU 6 124 M8 ?_;refine pU 7 125 M9 ?_;refine pN 8 126 M10 ?_;refine pN 9 127 M33 ?_;refine pN 10 128 M34 ?_;refine pN 11 129 M35 ?_;refine pN 12 130 M36 ?_;refine pN 13 131 M15 ?_;refine pN 14 132 M16 ?_;refine pN 15 133 M17 ?_;refine pN 16 134 M18 ?_;refine pN 17 135 M19 ?_;refine pU 18 136 M20 ?_;refine pU 19 137 M21 ?_;refine pU 20 138 M22 ?_;refine pU 21 139 M23 ?_;refine pU 23 141 M32 ?_;refine tU 22 140 M25 ?_ (y:=Z64);refine tU 24 142 M26 ?_ (y:=Z64);refine pU 25 143 M27 ?_;refine pU 26 144 M28 ?_
                 refine oU 27 (some 145) M29 (fun K hK => ?_)
                 refine goes_ Try.func14 (by kernel_rfl) rfl #[.int .i64 ((rd_T76 l2_5 x113_4).f1),.int .i64 0,.int .i64 (wrap64 ((((rd_T48 l0 a1).f2).length : Int) - 1))] (by rfl) rfl rfl Z25 ?_
                 with_reducible refine (impl_within.calls ((rd_T76 l2_5 x113_4).f1) 0 (wrap64 ((((rd_T48 l0 a1).f2).length : Int) - 1)) true _ nU.out).mono ?_
                 rintro e w' ⟨rfl,⟨nd,rfl⟩⟩
                 refine ⟨_,rfl,?_⟩
                 refine hK.out _ _ ⟨(bc aE.out 0).trans rfl,(bc aE.out 1).trans rfl,(D_10 aA.out)⟩ (fun hHeld => ?_)
                 clear hK K
                 refine norm_ (a':=?_) ?_ ?_
                 rotate_left;(·exact Z63);refine pU 28 146 M30 ?_;refine pU 29 147 M31 ?_
                 refine done_ (done_of HT_.out (by kernel_rfl)) ?_
                 try go_wp2
                 go_roundg k4
                 case measure => have:=a5.out;have:=bH.out;have:=HK3.out;have:=nH.out;omega
                 case rel => exact ⟨(wrap64 (x113_4 + 1)),Z22,H',⟨by have:=a5.out;have:=bH.out;have:=HK3.out;have:=nH.out;omega⟩,⟨Z1 aB.out⟩,⟨Z1 aA.out⟩,⟨Z33⟩⟩
                ·replace kP:=Bool.eq_false_iff.mpr kP
                 subst kP;rw [if_neg (show ¬ (false = true) by decide)] at H;obtain rfl:=Option.some.inj H;have bI : 0 ≤ (x113_4 : Int):=odt;have bJ : x113_4 < (l2_5.length : Int):=odt;obtain ⟨aY,dL,aQ,aR⟩:=at_T76 b9.out x113_4 bI bJ;cases dL;replace aQ:=ZC HB.out aQ;replace aR:=ZC HB.out aR;replace bI:=eq_true bI;replace bJ:=eq_true bJ
                 try go_wp2_with (first | ((with_reducible refine gate_dst (N:=18) rfl ?_);(try (refine gate_guard (by rfl) ?_;dsimp only));refine be (cs:=#[.int .i64 0,.int .i64 0]) (t:=76) ?_;intro aC hg gV hbox hb;have aE:=A_ hbox;have bT:=A_ (gl hg (bz (Z8 GE954.out GE956.out)));have GE962:=bT;replace HB:=A_ (bst (Z8 GE954.out GE956.out) hb);have aM:=A_ ((by rw [hg];exact nl (blk_lt (Z1 aB.out)) : aJ ≠ aC));have aV:=A_ ((by rw [hg];exact Nat.ne_of_gt (blk_lt (Z1 aB.out)) : aC ≠ aJ));replace aB:=A_ (bb (Z1 aB.out) hb);have aN:=A_ ((by rw [hg];exact nl (blk_lt (Z1 aA.out)) : aF ≠ aC));have aW:=A_ ((by rw [hg];exact Nat.ne_of_gt (blk_lt (Z1 aA.out)) : aC ≠ aF));replace aA:=A_ (bb (Z1 aA.out) hb);clear hb hbox hg;have DC:=aV.out;have DD:=aM.out;have DE:=aW.out;have DF:=aN.out;obtain ⟨nZ,n0,n1,n2⟩:=C2 aE.out))
                 have bL : Aside0 (((gV.setCell ⟨aC,0,none⟩ (.int .i64 ((rd_T76 l2_5 x113_4).f0))).setCell ⟨aC,1,none⟩ (.int .i64 ((rd_T76 l2_5 x113_4).f1))).heap[aJ]? = some (.cells #[.int .i64 aI,.int .i64 aO,.slice a9 aL.length bA,.slice bB aX.length bC,.slice bD aS.length bE,.slice (some aY) l2_5.length bF,.slice bK aK.length bG] 46 (0,0))):=⟨Z26 aM.out aB.out⟩;have bM : Aside0 (((gV.setCell ⟨aC,0,none⟩ (.int .i64 ((rd_T76 l2_5 x113_4).f0))).setCell ⟨aC,1,none⟩ (.int .i64 ((rd_T76 l2_5 x113_4).f1))).heap[aF]? = some (.cells #[.int .i64 ((rd_T48 l0 a1).f0),.slice A955_1 ((rd_T48 l0 a1).f1).length c955_1,.slice A955_2 ((rd_T48 l0 a1).f2).length c955_2,.int .i64 ((rd_T48 l0 a1).f3.f0),.int .i64 ((rd_T48 l0 a1).f3.f1),.slice A955_5 ((rd_T48 l0 a1).f3.f2).length c955_5,.slice A955_6 ((rd_T48 l0 a1).f3.f3).length c955_6,.slice A955_7 ((rd_T48 l0 a1).f3.f4).length c955_7,.slice A955_8 ((rd_T48 l0 a1).f3.f5).length c955_8,.slice aT ((rd_T48 l0 a1).f3.f6).length aU] 48 (0,0))):=⟨Z26 aN.out aA.out⟩;have bN : Aside0 (((gV.setCell ⟨aC,0,none⟩ (.int .i64 ((rd_T76 l2_5 x113_4).f0))).setCell ⟨aC,1,none⟩ (.int .i64 ((rd_T76 l2_5 x113_4).f1))).heap[aC]? = some (.cells #[.int .i64 ((rd_T76 l2_5 x113_4).f0),.int .i64 ((rd_T76 l2_5 x113_4).f1)] 76 (0,0))):=⟨Z36 aE.out⟩;have bO : Aside0 (Below w.heap.size w ((gV.setCell ⟨aC,0,none⟩ (.int .i64 ((rd_T76 l2_5 x113_4).f0))).setCell ⟨aC,1,none⟩ (.int .i64 ((rd_T76 l2_5 x113_4).f1)))):=⟨Z33⟩
                 (try clear aB);(try clear aA);(try clear aE);(try clear HB);generalize ((gV.setCell ⟨aC,0,none⟩ (.int .i64 ((rd_T76 l2_5 x113_4).f0))).setCell ⟨aC,1,none⟩ (.int .i64 ((rd_T76 l2_5 x113_4).f1))) = DG at bL bM bN bO ⊢;have aB:=bL;have aA:=bM;have aE:=bN;have HB:=bO;clear bL bM bN bO;have bL:=A_ (blk_drew aB.out);have bM:=A_ (blk_drew aA.out);have bN:=A_ (blk_drew aE.out);have bO:=A_ (below_drew1 HB.out);clear aB aA aE HB;have aB:=bL;have aA:=bM;have aE:=bN;have HB:=bO;clear bL bM bN bO
                 refine start_ (n:=30) (S:=fun w' => w'.cell? ⟨aC,0,none⟩ = some (.int .i64 ((rd_T76 l2_5 x113_4).f0)) ∧ w'.cell? ⟨aC,1,none⟩ = some (.int .i64 ((rd_T76 l2_5 x113_4).f1)) ∧ P_10 w' aF (.int .i64 ((rd_T48 l0 a1).f0)) (.slice A955_1 ((rd_T48 l0 a1).f1).length c955_1) (.slice A955_2 ((rd_T48 l0 a1).f2).length c955_2) (.int .i64 ((rd_T48 l0 a1).f3.f0)) (.int .i64 ((rd_T48 l0 a1).f3.f1)) (.slice A955_5 ((rd_T48 l0 a1).f3.f2).length c955_5) (.slice A955_6 ((rd_T48 l0 a1).f3.f3).length c955_6) (.slice A955_7 ((rd_T48 l0 a1).f3.f4).length c955_7) (.slice A955_8 ((rd_T48 l0 a1).f3.f5).length c955_8) (.slice aT ((rd_T48 l0 a1).f3.f6).length aU)) (ds:=[]) M1 (by kernel_rfl) rfl rfl ⟨(bc aE.out 0).trans rfl,(bc aE.out 1).trans rfl,(D_10 aA.out)⟩ (fun hHeld => ?_);refine with_tabW impl_tmplOk.tab25 impl_tmplOk.bits25 (fun HT_ HW_ => ?_)
                 generalize DG.drew = HD at aB aA aE HB hHeld ⊢;refine pU 0 118 M2 ?_;refine tU 1 119 M3 ?_ (y:=Z64)
                 refine oU 2 (some 120) M4 (fun K hK => ?_)
                 refine goes_ Try.func14 (by kernel_rfl) rfl #[.int .i64 ((rd_T76 l2_5 x113_4).f0),.int .i64 0,.int .i64 2] (by rfl) rfl rfl Z25 ?_
                 with_reducible refine (impl_within.calls ((rd_T76 l2_5 x113_4).f0) 0 2 true _ lV.out).mono ?_
                 rintro e w' ⟨rfl,⟨nd,rfl⟩⟩
                 refine ⟨_,rfl,?_⟩
                 refine hK.out _ _ ⟨(bc aE.out 0).trans rfl,(bc aE.out 1).trans rfl,(D_10 aA.out)⟩ (fun hHeld => ?_)
                 clear hK K
                 refine norm_ (a':=?_) ?_ ?_
                 rotate_left;(·exact Z52);refine pU 3 121 M5 ?_;refine pU 4 122 M6 ?_;refine pU 5 123 M7 ?_;refine pU 6 124 M8 ?_;refine pU 7 125 M9 ?_;refine pN 8 126 M10 ?_;refine pN 9 127 M33 ?_;refine pN 10 128 M34 ?_;refine pN 11 129 M35 ?_;refine pN 12 130 M36 ?_;refine pN 13 131 M15 ?_;refine pN 14 132 M16 ?_;refine pN 15 133 M17 ?_;refine pN 16 134 M18 ?_;refine pN 17 135 M19 ?_;refine pU 18 136 M20 ?_;refine pU 19 137 M21 ?_;refine pU 20 138 M22 ?_;refine pU 21 139 M23 ?_;refine pU 23 141 M32 ?_;refine tU 22 140 M25 ?_ (y:=Z64);refine tU 24 142 M26 ?_ (y:=Z64);refine pU 25 143 M27 ?_;refine pU 26 144 M28 ?_
                 refine oU 27 (some 145) M29 (fun K hK => ?_)
                 refine goes_ Try.func14 (by kernel_rfl) rfl #[.int .i64 ((rd_T76 l2_5 x113_4).f1),.int .i64 0,.int .i64 (wrap64 ((((rd_T48 l0 a1).f2).length : Int) - 1))] (by rfl) rfl rfl Z25 ?_
                 with_reducible refine (impl_within.calls ((rd_T76 l2_5 x113_4).f1) 0 (wrap64 ((((rd_T48 l0 a1).f2).length : Int) - 1)) false _ nU.out).mono ?_
                 rintro e w' ⟨rfl,⟨nd,rfl⟩⟩
                 refine ⟨_,rfl,?_⟩
                 refine hK.out _ _ ⟨(bc aE.out 0).trans rfl,(bc aE.out 1).trans rfl,(D_10 aA.out)⟩ (fun hHeld => ?_)
                 clear hK K
                 refine norm_ (a':=?_) ?_ ?_
                 rotate_left;(·exact Z63);refine pU 28 146 M30 ?_;refine pU 29 147 M31 ?_
                 refine done_ (done_of HT_.out (by kernel_rfl)) ?_
                 try go_wp2
                 go_ret
                 exact ⟨Z12,Z33⟩
              ·replace BX:=Bool.eq_false_iff.mpr BX
               subst BX;rw [if_neg (show ¬ (false = true) by decide)] at H;obtain rfl:=Option.some.inj H;have bI : 0 ≤ (x113_4 : Int):=odt;have bJ : x113_4 < (l2_5.length : Int):=odt;obtain ⟨aY,dL,aQ,aR⟩:=at_T76 b9.out x113_4 bI bJ;cases dL;replace aQ:=ZC HB.out aQ;replace aR:=ZC HB.out aR;replace bI:=eq_true bI;replace bJ:=eq_true bJ
               try go_wp2_with (first | ((with_reducible refine gate_dst (N:=18) rfl ?_);(try (refine gate_guard (by rfl) ?_;dsimp only));refine be (cs:=#[.int .i64 0,.int .i64 0]) (t:=76) ?_;intro aC hg gW hbox hb;have aE:=A_ hbox;have bT:=A_ (gl hg (bz (Z8 GE954.out GE956.out)));have GE962:=bT;replace HB:=A_ (bst (Z8 GE954.out GE956.out) hb);have aM:=A_ ((by rw [hg];exact nl (blk_lt (Z1 aB.out)) : aJ ≠ aC));have aV:=A_ ((by rw [hg];exact Nat.ne_of_gt (blk_lt (Z1 aB.out)) : aC ≠ aJ));replace aB:=A_ (bb (Z1 aB.out) hb);have aN:=A_ ((by rw [hg];exact nl (blk_lt (Z1 aA.out)) : aF ≠ aC));have aW:=A_ ((by rw [hg];exact Nat.ne_of_gt (blk_lt (Z1 aA.out)) : aC ≠ aF));replace aA:=A_ (bb (Z1 aA.out) hb);clear hb hbox hg;have DH:=aV.out;have DI:=aM.out;have DJ:=aW.out;have DK:=aN.out;obtain ⟨n3,n4,n5,n7⟩:=C2 aE.out))
               have bL : Aside0 (((gW.setCell ⟨aC,0,none⟩ (.int .i64 ((rd_T76 l2_5 x113_4).f0))).setCell ⟨aC,1,none⟩ (.int .i64 ((rd_T76 l2_5 x113_4).f1))).heap[aJ]? = some (.cells #[.int .i64 aI,.int .i64 aO,.slice a9 aL.length bA,.slice bB aX.length bC,.slice bD aS.length bE,.slice (some aY) l2_5.length bF,.slice bK aK.length bG] 46 (0,0))):=⟨Z26 aM.out aB.out⟩;have bM : Aside0 (((gW.setCell ⟨aC,0,none⟩ (.int .i64 ((rd_T76 l2_5 x113_4).f0))).setCell ⟨aC,1,none⟩ (.int .i64 ((rd_T76 l2_5 x113_4).f1))).heap[aF]? = some (.cells #[.int .i64 ((rd_T48 l0 a1).f0),.slice A955_1 ((rd_T48 l0 a1).f1).length c955_1,.slice A955_2 ((rd_T48 l0 a1).f2).length c955_2,.int .i64 ((rd_T48 l0 a1).f3.f0),.int .i64 ((rd_T48 l0 a1).f3.f1),.slice A955_5 ((rd_T48 l0 a1).f3.f2).length c955_5,.slice A955_6 ((rd_T48 l0 a1).f3.f3).length c955_6,.slice A955_7 ((rd_T48 l0 a1).f3.f4).length c955_7,.slice A955_8 ((rd_T48 l0 a1).f3.f5).length c955_8,.slice aT ((rd_T48 l0 a1).f3.f6).length aU] 48 (0,0))):=⟨Z26 aN.out aA.out⟩;have bN : Aside0 (((gW.setCell ⟨aC,0,none⟩ (.int .i64 ((rd_T76 l2_5 x113_4).f0))).setCell ⟨aC,1,none⟩ (.int .i64 ((rd_T76 l2_5 x113_4).f1))).heap[aC]? = some (.cells #[.int .i64 ((rd_T76 l2_5 x113_4).f0),.int .i64 ((rd_T76 l2_5 x113_4).f1)] 76 (0,0))):=⟨Z36 aE.out⟩;have bO : Aside0 (Below w.heap.size w ((gW.setCell ⟨aC,0,none⟩ (.int .i64 ((rd_T76 l2_5 x113_4).f0))).setCell ⟨aC,1,none⟩ (.int .i64 ((rd_T76 l2_5 x113_4).f1)))):=⟨Z33⟩
               (try clear aB);(try clear aA);(try clear aE);(try clear HB);generalize ((gW.setCell ⟨aC,0,none⟩ (.int .i64 ((rd_T76 l2_5 x113_4).f0))).setCell ⟨aC,1,none⟩ (.int .i64 ((rd_T76 l2_5 x113_4).f1))) = DL at bL bM bN bO ⊢;have aB:=bL;have aA:=bM;have aE:=bN;have HB:=bO;clear bL bM bN bO;have bL:=A_ (blk_drew aB.out);have bM:=A_ (blk_drew aA.out);have bN:=A_ (blk_drew aE.out);have bO:=A_ (below_drew1 HB.out);clear aB aA aE HB;have aB:=bL;have aA:=bM;have aE:=bN;have HB:=bO;clear bL bM bN bO
               refine start_ (n:=30) (S:=fun w' => w'.cell? ⟨aC,0,none⟩ = some (.int .i64 ((rd_T76 l2_5 x113_4).f0)) ∧ w'.cell? ⟨aC,1,none⟩ = some (.int .i64 ((rd_T76 l2_5 x113_4).f1))) (ds:=[]) M1 (by kernel_rfl) rfl rfl ⟨(bc aE.out 0).trans rfl,(bc aE.out 1).trans rfl⟩ (fun hHeld => ?_);refine with_tabW impl_tmplOk.tab25 impl_tmplOk.bits25 (fun HT_ HW_ => ?_)
               generalize DL.drew = HE at aB aA aE HB hHeld ⊢;refine pU 0 118 M2 ?_;refine take_ (i:=1) (N:=some 119) (v:=?_) (a':=?_) M3 rfl rfl (take_ofW HT_.out HW_.out (by kernel_rfl)) ZF (Or.inl ⟨by rfl,?_⟩) hHeld ?_ ?_;rotate_left
               ·rintro w' ⟨s0,s1⟩
                go_simp
                with_reducible rfl
               rotate_left;(·exact Z0)
               refine oU 2 (some 120) M4 (fun K hK => ?_)
               refine goes_ Try.func14 (by kernel_rfl) rfl #[.int .i64 ((rd_T76 l2_5 x113_4).f0),.int .i64 0,.int .i64 2] (by rfl) rfl rfl Z25 ?_
               with_reducible refine (impl_within.calls ((rd_T76 l2_5 x113_4).f0) 0 2 false _ lV.out).mono ?_
               rintro e w' ⟨rfl,⟨nd,rfl⟩⟩
               refine ⟨_,rfl,?_⟩
               refine hK.out _ _ ⟨(bc aE.out 0).trans rfl,(bc aE.out 1).trans rfl⟩ (fun hHeld => ?_)
               clear hK K
               refine norm_ (a':=?_) ?_ ?_
               rotate_left;(·exact Z52);refine pU 3 121 M5 ?_;refine pU 4 122 M6 ?_;refine pN 5 123 M7 ?_;refine pN 6 124 M8 ?_;refine pN 7 125 M9 ?_;refine pN 8 126 M10 ?_;refine pN 9 127 M33 ?_;refine pN 10 128 M34 ?_;refine pN 11 129 M35 ?_;refine pN 12 130 M36 ?_;refine pN 13 131 M15 ?_;refine pN 14 132 M16 ?_;refine pN 15 133 M17 ?_;refine pN 16 134 M18 ?_;refine pN 17 135 M19 ?_;refine pN 18 136 M20 ?_;refine pU 19 137 M21 ?_;refine pU 20 138 M22 ?_;refine pN 21 139 M23 ?_;refine pN 22 140 M24 ?_;refine pN 23 141 M25 ?_;refine pN 24 142 M26 ?_;refine pN 25 143 M27 ?_;refine pN 26 144 M28 ?_;refine pN 27 145 M29 ?_;refine pN 28 146 M30 ?_;refine pU 29 147 M31 ?_
               refine done_ (done_of HT_.out (by kernel_rfl)) ?_
               try go_wp2
               go_ret
               exact ⟨Z12,Z33⟩
             ·rw [if_neg BW] at H
              exact absurd H (by simp)
            ·rw [if_neg BV] at H
             exact absurd H (by simp)
           ·rw [if_neg mR] at H
            have nI:=df mR;clear mR;have H':=A_ H;clear H
            go_wp2
            go_meet
            case rel => exact ⟨_,((aL.length : Int)),(0),(4),Z22,Z22,Z22,H',⟨by have:=a5.out;have:=bH.out;have:=HK3.out;have:=nH.out;first | omega | exact Nat.le_refl _⟩,⟨Z1 aB.out⟩,⟨Z1 aA.out⟩,⟨Z8 GE954.out GE956.out⟩⟩
     ·replace AN:=Bool.eq_false_iff.mpr AN
      subst AN;rw [if_neg (show ¬ (false = true) by decide)] at H;obtain rfl:=Option.some.inj H;have DM:=aD.out;have DN:=aG.out;obtain ⟨n8,n9,oA,oB,oC,oD,oE,oF,oG,oH,oI,oJ,oK,oL⟩:=C7 aB.out
      go_wp2_with (first | ((with_reducible refine gate_callee (f:=14) rfl ?_);refine gL 82 Try.func14 #[.int .i64 aO,.int .i64 0,.int .i64 4] ?_;(with_reducible refine (impl_within.calls aO 0 4 false _ F6.out).mono ?_);rintro e w' ⟨rfl,⟨nd,rfl⟩⟩;refine ⟨_,rfl,?_⟩))
      go_ret
      exact ⟨Z12,Z8 GE954.out GE956.out⟩
    ·rw [if_neg lT] at H
     have k8:=e_f lT;have k9:=n_t lT
     by_cases eT : aI = 2
     ·rw [if_pos eT] at H
      have lW:=e_t eT;have lX:=n_f eT;clear eT;have H':=A_ H;clear H
      go_wp2
      go_meet
      case rel => exact ⟨_,(1),(1),(2),Z22,Z22,Z22,H',⟨by have:=a5.out;have:=bH.out;first | omega | exact Nat.le_refl _⟩,⟨Z1 aB.out⟩,⟨Z1 aA.out⟩,⟨Z8 GE954.out GE956.out⟩⟩
     ·rw [if_neg eT] at H
      have lW:=e_f eT;have lX:=n_t eT
      by_cases eU : aI = 3
      ·rw [if_pos eU] at H
       have lY:=e_t eU;have lZ:=n_f eU;clear eU
       by_cases gC : (aS.length : Int) > 0
       ·rw [if_pos gC] at H
        have mA : decide (0 < (aS.length : Int)) = true:=dt gC;have mB : decide (0 < aS.length) = true:=dt (by omega);clear gC;replace H:=bS H;obtain ⟨DO,lC,H⟩:=H
        try dsimp only at H
        have oM:=A_ lC;clear lC
        by_cases kQ : DO = true
        ·subst kQ
         rw [if_pos rfl] at H;have H':=A_ H;clear H;have DP:=aD.out;have DQ:=aG.out;obtain ⟨oN,oO,oP,oQ,oR,oS,oT,oV,oW,oX,oY,oZ,o0,o1⟩:=C7 aB.out;obtain ⟨o2,o3,o4,o5,o6,o7,o8,o9,pA,pB,pC,pD,pE,pF,pG,pH,pI,pJ,pK,pL⟩:=C10 aA.out
         go_wp2_with (first | (go_at_call 37;(with_reducible refine (impl_FormOk.calls gR _ _ aS ((rd_T48 l0 a1).f0) (((rd_T48 l0 a1).f1).length : Int) (wrap64 (a4 + 1)) true _ ?s1 k1.out oM.out).mono ?_);(case s1 => exact Z9 k0.out);rintro e HF ⟨rfl,hb⟩;replace aB:=A_ (bb (Z1 aB.out) hb);replace aA:=A_ (bb (Z1 aA.out) hb);replace HB:=A_ (bst (Z8 GE954.out GE956.out) hb);(try clear hb)))
         go_meet
         case rel => exact ⟨_,(1),(1),(1),Z22,Z22,Z22,H',⟨by have:=a5.out;have:=bH.out;first | omega | exact Nat.le_refl _⟩,⟨Z1 aB.out⟩,⟨Z1 aA.out⟩,⟨Z8 GE954.out GE956.out⟩⟩
        ·replace kQ:=Bool.eq_false_iff.mpr kQ
         subst kQ;rw [if_neg (show ¬ (false = true) by decide)] at H;obtain rfl:=Option.some.inj H;have DR:=aD.out;have DS:=aG.out;obtain ⟨pM,pO,pP,pQ,pR,pS,pT,pV,pW,pX,pY,pZ,p0,p1⟩:=C7 aB.out;obtain ⟨p2,p3,p4,p5,p6,p7,p8,p9,qA,qB,qC,qD,qE,qF,qG,qH,qI,qJ,qK,qL⟩:=C10 aA.out
         go_wp2_with (first | (go_at_call 37;(with_reducible refine (impl_FormOk.calls gR _ _ aS ((rd_T48 l0 a1).f0) (((rd_T48 l0 a1).f1).length : Int) (wrap64 (a4 + 1)) false _ ?s1 k1.out oM.out).mono ?_);(case s1 => exact Z9 k0.out);rintro e HG ⟨rfl,hb⟩;replace aB:=A_ (bb (Z1 aB.out) hb);replace aA:=A_ (bb (Z1 aA.out) hb);replace HB:=A_ (bst (Z8 GE954.out GE956.out) hb);(try clear hb)))
         go_ret
         exact ⟨Z12,Z8 GE954.out GE956.out⟩
       ·rw [if_neg gC] at H
        have mA : decide (0 < (aS.length : Int)) = false:=df gC;have mB : decide (0 < aS.length) = false:=df (by omega);clear gC;have H':=A_ H;clear H;have DT:=aD.out;have DU:=aG.out;obtain ⟨qM,qN,qO,qP,qQ,qR,qS,qT,qU,qV,qW,qX,qY,qZ⟩:=C7 aB.out
        go_wp2
        go_meet
        case rel => exact ⟨_,(1),(1),(1),Z22,Z22,Z22,H',⟨by have:=a5.out;have:=bH.out;first | omega | exact Nat.le_refl _⟩,⟨Z1 aB.out⟩,⟨Z1 aA.out⟩,⟨Z8 GE954.out GE956.out⟩⟩
      ·rw [if_neg eU] at H
       have lY:=e_f eU;have lZ:=n_t eU
       by_cases eV : aI = 4
       ·rw [if_pos eV] at H
        have mC:=e_t eV;have mD:=n_f eV;clear eV;replace H:=bS H;obtain ⟨DV,lD,H⟩:=H
        try dsimp only at H
        have q0:=A_ lD;clear lD
        by_cases kR : DV = true
        ·subst kR
         rw [if_pos rfl] at H
         by_cases kS : 0 ≤ aO
         ·rw [if_pos kS] at H
          have DW:=dt kS;clear kS
          by_cases kT : aO < (l0.length : Int)
          ·rw [if_pos kT] at H
           have DX:=dt kT;clear kT;have H':=A_ H;clear H;have DY:=aD.out;have DZ:=aG.out;obtain ⟨q1,q2,q3,q4,q5,q7,q8,q9,rA,rB,rC,rD,rE,rF⟩:=C7 aB.out
           go_wp2_with (first | ((with_reducible refine gate_callee (f:=14) rfl ?_);refine gL 179 Try.func14 #[.int .i64 aO,.int .i64 (wrap64 (a1 + 1)),.int .i64 (wrap64 ((l0.length : Int) - 1))] ?_;(with_reducible refine (impl_within.calls aO (wrap64 (a1 + 1)) (wrap64 ((l0.length : Int) - 1)) true _ q0.out).mono ?_);rintro e w' ⟨rfl,⟨nd,rfl⟩⟩;refine ⟨_,rfl,?_⟩;have mE : 0 ≤ (aO : Int):=odt;have mF : aO < (l0.length : Int):=odt;obtain ⟨rG,D0,D1,D2,D3,D4,D5,D6,D7,D8,D9,EA,EB,EC,ED,EE,fG,fH,fI,fJ,fK,fL,fM,fN,fO,fP,fQ,fR,fS,fT,fU,fV,fW,fX,fY,fZ,f7,f8,f9,gA⟩:=at_T48 mU.out aO mE mF;obtain rfl : e1 = rG:=(by injection EE);replace fG:=ZC HB.out fG;replace fH:=ZC HB.out fH;replace fI:=ZC HB.out fI;replace fJ:=ZC HB.out fJ;replace fK:=ZC HB.out fK;replace fL:=ZC HB.out fL;replace fM:=ZC HB.out fM;replace fN:=ZC HB.out fN;replace fO:=ZC HB.out fO;replace fP:=ZC HB.out fP;have B9:=A_ fR;have CA:=A_ fQ;clear fR fQ;have CB:=A_ fT;have CC:=A_ fS;clear fT fS;have CD:=A_ fV;have CE:=A_ fU;clear fV fU;have CF:=A_ fX;have CG:=A_ fW;clear fX fW;have CH:=A_ fZ;have CI:=A_ fY;clear fZ fY;have CJ:=A_ f8;have CK:=A_ f7;clear f8 f7;have CL:=A_ gA;have CM:=A_ f9;clear gA f9;replace mE:=eq_true mE;replace mF:=eq_true mF))
           go_meet
           case rel => exact ⟨_,((rd_T48 l0 aO).f0),(0),(0),Z22,Z22,Z22,H',⟨by have:=a5.out;have:=bH.out;first | omega | exact Nat.le_refl _⟩,⟨Z1 aB.out⟩,⟨Z1 aA.out⟩,⟨Z8 GE954.out GE956.out⟩⟩
          ·rw [if_neg kT] at H
           exact absurd H (by simp)
         ·rw [if_neg kS] at H
          exact absurd H (by simp)
        ·replace kR:=Bool.eq_false_iff.mpr kR
         subst kR;rw [if_neg (show ¬ (false = true) by decide)] at H;obtain rfl:=Option.some.inj H;have EF:=aD.out;have EG:=aG.out;obtain ⟨rH,rI,rJ,rK,rL,rM,rN,rO,rP,rQ,rR,rS,rT,rU⟩:=C7 aB.out
         go_wp2_with (first | ((with_reducible refine gate_callee (f:=14) rfl ?_);refine gL 179 Try.func14 #[.int .i64 aO,.int .i64 (wrap64 (a1 + 1)),.int .i64 (wrap64 ((l0.length : Int) - 1))] ?_;(with_reducible refine (impl_within.calls aO (wrap64 (a1 + 1)) (wrap64 ((l0.length : Int) - 1)) false _ q0.out).mono ?_);rintro e w' ⟨rfl,⟨nd,rfl⟩⟩;refine ⟨_,rfl,?_⟩))
         go_ret
         exact ⟨Z12,Z8 GE954.out GE956.out⟩
       ·rw [if_neg eV] at H
        have mC:=e_f eV;have mD:=n_t eV
        by_cases eW : aI = 5
        ·rw [if_pos eW] at H
         have mG:=e_t eW;have mH:=n_f eW;clear eW;replace H:=bS H;obtain ⟨EH,lE,H⟩:=H
         try dsimp only at H
         have rV:=A_ lE;clear lE
         by_cases kU : EH = true
         ·subst kU
          rw [if_pos rfl] at H;have H':=A_ H;clear H;have EI:=aD.out;have EJ:=aG.out;obtain ⟨rW,rX,rY,rZ,r1,r2,r3,r4,r5,r7,r8,r9,sA,sB⟩:=C7 aB.out
          go_wp2_with (first | ((with_reducible refine gate_callee (f:=14) rfl ?_);refine gL 191 Try.func14 #[.int .i64 aO,.int .i64 0,.int .i64 1] ?_;(with_reducible refine (impl_within.calls aO 0 1 true _ rV.out).mono ?_);rintro e w' ⟨rfl,⟨nd,rfl⟩⟩;refine ⟨_,rfl,?_⟩))
          go_meet
          case rel => exact ⟨_,(1),(0),(4),Z22,Z22,Z22,H',⟨by have:=a5.out;have:=bH.out;first | omega | exact Nat.le_refl _⟩,⟨Z1 aB.out⟩,⟨Z1 aA.out⟩,⟨Z8 GE954.out GE956.out⟩⟩
         ·replace kU:=Bool.eq_false_iff.mpr kU
          subst kU;rw [if_neg (show ¬ (false = true) by decide)] at H;obtain rfl:=Option.some.inj H;have EK:=aD.out;have EL:=aG.out;obtain ⟨sC,sD,sE,sF,sG,sH,sI,sJ,sK,sL,sM,sN,sO,sP⟩:=C7 aB.out
          go_wp2_with (first | ((with_reducible refine gate_callee (f:=14) rfl ?_);refine gL 191 Try.func14 #[.int .i64 aO,.int .i64 0,.int .i64 1] ?_;(with_reducible refine (impl_within.calls aO 0 1 false _ rV.out).mono ?_);rintro e w' ⟨rfl,⟨nd,rfl⟩⟩;refine ⟨_,rfl,?_⟩))
          go_ret
          exact ⟨Z12,Z8 GE954.out GE956.out⟩
        ·rw [if_neg eW] at H
         have mG:=e_f eW;have mH:=n_t eW;obtain rfl:=Option.some.inj H
         go_wp2
         go_ret
         exact ⟨Z12,Z8 GE954.out GE956.out⟩
set_option maxHeartbeats 8000000 in
set_option maxRecDepth 100000 in
theorem impl_tmplOk.b : impl_tmplOk.S2.1:=by
 intro c0 l0 a1 aI aO a9 bA aL bB bC aX bD bE aS b6 bF l2_5 bK bG aK a3 a4 r w k ih GY GZ G0 FB d2 FC mV mW k0 k1 b9 FD k2 FE Q0_ aJ HP gP GE954 e1 A955_1 c955_1 A955_2 c955_2 A955_5 c955_5 A955_6 c955_6 A955_7 c955_7 A955_8 c955_8 aT aU mU e2 e3 e4 e5 e6 e7 e8 e9 fA fB fC fD fE fF aF HQ _ gQ GE956 _ aD aG _ FH FI CR a5 gR bH lS F4 F5 K2_ a2_ wc u10 u12 u13 u14 u15 u16 u17 u18 _ _ _ _ _ _ _ _ _ _ _ _ _ _ _ _ _ _ _ _ _ _ _ _ _ _ _ _ _ _ _ _ _ _ _ _ _ _ _ _ _ _ _ _ _ _ _ _ _ _ _ _ _ _ _ _ _ _ _ _ _ _ _ _ _ _ _ _ _ _ _ _ _ _ _ _ _ _ _ _ _ _ _ _ _ _ _ _ _ _ _ _ _ _ _ _ _ _ _ _ _ _ _ _ _ _ _ _ _ _ _ _ _ _ _ _ _ _ _ _ _ _ _ _ _ _ _ _ _ _ _ _ _ _ _ _ _ _ _ _ _ _ _ _ _ _ _ _ _ _ _ _ _ _ _ _ _ _ _ _ _ _ _ _ _ _ _ _ _ _ _ _ _ _ _ _ _ _ _ _ _ _ _ _ _ _ _ _ _ _ _ _ _ _ _ _ _ _ _ _ _ _ _ _ _ _ _ _ _ _ _ hcut
 clear lS;obtain ⟨kq,bR,dJ,dK,rfl,rfl,rfl,HA,d8,aB,aA,HB⟩:=hcut
 cases kq with
 | zero => exact absurd HA.out (by simp [impl_tmplOk.j4])
 | succ sQ =>
  have H:=HA.out;clear HA;simp only [impl_tmplOk.j4] at H;have gX:=A_ H;clear H
  go_upto_region 42 with (fail)
  go_cut [214] (fun EM wc => ∃ (kq : Nat) (cP : Bool),EM = .bool cP ∧ Aside0 (impl_tmplOk.j5 kq l0 a1 a3 a4 cP aI aO aL aX aS l2_5 aK = some r) ∧ Aside0 (kq ≤ sQ) ∧ Aside0 (wc.heap[aJ]? = some (.cells #[.int .i64 aI,.int .i64 aO,(.slice a9 aL.length bA),(.slice bB aX.length bC),(.slice bD aS.length bE),(.slice b6 l2_5.length bF),(.slice bK aK.length bG)] 46 (0,0))) ∧ Aside0 (wc.heap[aF]? = some (.cells #[.int .i64 ((rd_T48 l0 a1).f0),(.slice A955_1 ((rd_T48 l0 a1).f1).length c955_1),(.slice A955_2 ((rd_T48 l0 a1).f2).length c955_2),.int .i64 ((rd_T48 l0 a1).f3.f0),.int .i64 ((rd_T48 l0 a1).f3.f1),(.slice A955_5 ((rd_T48 l0 a1).f3.f2).length c955_5),(.slice A955_6 ((rd_T48 l0 a1).f3.f3).length c955_6),(.slice A955_7 ((rd_T48 l0 a1).f3.f4).length c955_7),(.slice A955_8 ((rd_T48 l0 a1).f3.f5).length c955_8),(.slice aT ((rd_T48 l0 a1).f3.f6).length aU)] 48 (0,0))) ∧ Aside0 (Below w.heap.size w wc))
  case first =>
   have H:=gX.out;clear gX
   by_cases eX : (aX.length : Int) = bR
   ·rw [if_pos eX] at H
    have dO : ((aX.length : Int) == bR) = true:=beq_iff_eq.mpr eX;have mI : ((aX.length : Int) != bR) = false:=bne_eq_false_iff_eq.mpr eX;clear eX;(first | rw [dO] | (simp only [i64_w,i32_w];rw [dO]) | skip);replace H:=bS H;obtain ⟨EN,lF,H⟩:=H
    try dsimp only at H
    have sR:=A_ lF;clear lF
    by_cases kV : EN = true
    ·subst kV
     rw [if_pos rfl] at H;replace H:=bS H;obtain ⟨sS,lG,H⟩:=H
     try dsimp only at H
     have EO:=A_ lG;clear lG;have H':=A_ H;clear H;have EP:=aD.out;have EQ:=aG.out;obtain ⟨sT,sU,sV,sW,sX,sY,sZ,tA,tB,tC,tD,tE,tF,tG⟩:=C7 aB.out
     go_wp2_with (first | (go_at_call 14;(with_reducible refine (impl_within.calls (aK.length : Int) dJ dK true _ sR.out).mono ?_);rintro e w' ⟨rfl,⟨nd,rfl⟩⟩;obtain ⟨tH,tI,tJ,tK,tL,tM,tN,tO,tP,tQ,tR,tS,tT,tV,tW,tX,tY,tZ,t0,t1⟩:=C10 aA.out) | (go_at_call 38;(with_reducible refine (impl_formsOk.calls sQ ((rd_T48 l0 a1).f0) _ _ ((rd_T48 l0 a1).f1) _ _ ((rd_T48 l0 a1).f2) ((rd_T48 l0 a1).f3.f0) ((rd_T48 l0 a1).f3.f1) _ _ ((rd_T48 l0 a1).f3.f2) _ _ ((rd_T48 l0 a1).f3.f3) _ _ ((rd_T48 l0 a1).f3.f4) _ _ ((rd_T48 l0 a1).f3.f5) _ _ ((rd_T48 l0 a1).f3.f6) _ _ aX a4 sS _ ?s1 e3.out ?s3 e5.out ?s5 e7.out ?s7 e9.out ?s9 fB.out ?s11 fD.out ?s13 fF.out ?s15 mW.out EO.out).mono ?_);(case s1 => repeat (first | exact (Kd.C_below e2.out (Z8 GE954.out GE956.out)) | (with_reducible refine Kd.C_alloc ?_ _) | (with_reducible refine Kd.C_drewN ?_ _) | (with_reducible refine Kd.C_drew ?_)));(case s3 => repeat (first | exact (Kd.C_below e4.out (Z8 GE954.out GE956.out)) | (with_reducible refine Kd.C_alloc ?_ _) | (with_reducible refine Kd.C_drewN ?_ _) | (with_reducible refine Kd.C_drew ?_)));(case s5 => repeat (first | exact (Kd.C_below e6.out (Z8 GE954.out GE956.out)) | (with_reducible refine Kd.C_alloc ?_ _) | (with_reducible refine Kd.C_drewN ?_ _) | (with_reducible refine Kd.C_drew ?_)));(case s7 => repeat (first | exact (Kd.C_below e8.out (Z8 GE954.out GE956.out)) | (with_reducible refine Kd.C_alloc ?_ _) | (with_reducible refine Kd.C_drewN ?_ _) | (with_reducible refine Kd.C_drew ?_)));(case s9 => repeat (first | exact (Kd.C_below fA.out (Z8 GE954.out GE956.out)) | (with_reducible refine Kd.C_alloc ?_ _) | (with_reducible refine Kd.C_drewN ?_ _) | (with_reducible refine Kd.C_drew ?_)));(case s11 => repeat (first | exact (Kd.C_below fC.out (Z8 GE954.out GE956.out)) | (with_reducible refine Kd.C_alloc ?_ _) | (with_reducible refine Kd.C_drewN ?_ _) | (with_reducible refine Kd.C_drew ?_)));(case s13 => repeat (first | exact (Kd.C_below fE.out (Z8 GE954.out GE956.out)) | (with_reducible refine Kd.C_alloc ?_ _) | (with_reducible refine Kd.C_drewN ?_ _) | (with_reducible refine Kd.C_drew ?_)));(case s15 => repeat (first | exact (Kd.C_below mV.out (Z8 GE954.out GE956.out)) | (with_reducible refine Kd.C_alloc ?_ _) | (with_reducible refine Kd.C_drewN ?_ _) | (with_reducible refine Kd.C_drew ?_)));rintro e HH ⟨rfl,hb⟩;replace aB:=A_ (bB_ aB.out hb);replace aA:=A_ (bB_ aA.out hb);replace HB:=A_ (bst (Z8 GE954.out GE956.out) hb);(try clear hb)))
     go_meet
     case rel => exact ⟨_,(!sS),Z22,H',⟨by have:=a5.out;have:=bH.out;have:=d8.out;first | omega | exact Nat.le_refl _⟩,⟨Z1 aB.out⟩,⟨Z1 aA.out⟩,⟨Z8 GE954.out GE956.out⟩⟩
    ·replace kV:=Bool.eq_false_iff.mpr kV
     subst kV;rw [if_neg (show ¬ (false = true) by decide)] at H;have H':=A_ H;clear H;have ER:=aD.out;have ES:=aG.out;obtain ⟨t2,t3,t4,t5,t6,t7,t8,t9,uA,uB,uC,uD,uE,uF⟩:=C7 aB.out
     go_wp2_with (first | (go_at_call 14;(with_reducible refine (impl_within.calls (aK.length : Int) dJ dK false _ sR.out).mono ?_);rintro e w' ⟨rfl,⟨nd,rfl⟩⟩))
     go_meet
     case rel => exact ⟨_,(true),Z22,H',⟨by have:=a5.out;have:=bH.out;have:=d8.out;first | omega | exact Nat.le_refl _⟩,⟨Z1 aB.out⟩,⟨Z1 aA.out⟩,⟨Z8 GE954.out GE956.out⟩⟩
   ·rw [if_neg eX] at H
    have dO : ((aX.length : Int) == bR) = false:=beq_eq_false_iff_ne.mpr eX;have mI : ((aX.length : Int) != bR) = true:=bne_iff_ne.mpr eX;(first | rw [dO] | (simp only [i64_w,i32_w];rw [dO]) | skip);have H':=A_ H;clear H;have ET:=aD.out;have EU:=aG.out;obtain ⟨uG,uH,uI,uJ,uK,uL,uM,uN,uO,uP,uQ,uR,uS,uT⟩:=C7 aB.out
    go_wp2
    go_meet
    case rel => exact ⟨_,(true),Z22,H',⟨by have:=a5.out;have:=bH.out;have:=d8.out;first | omega | exact Nat.le_refl _⟩,⟨Z1 aB.out⟩,⟨Z1 aA.out⟩,⟨Z8 GE954.out GE956.out⟩⟩
  case rest =>
   clear gX;obtain ⟨kq,cP,rfl,HA,d5,aB,aA,HB⟩:=hcut
   cases kq with
   | zero => exact absurd HA.out (by simp [impl_tmplOk.j5])
   | succ uU =>
    have H:=HA.out;clear HA;simp only [impl_tmplOk.j5] at H
    by_cases kW : cP = true
    ·subst kW
     rw [if_pos rfl] at H;obtain rfl:=Option.some.inj H
     go_wp2
     go_ret
     exact ⟨Z12,Z8 GE954.out GE956.out⟩
    ·replace kW:=Bool.eq_false_iff.mpr kW
     subst kW;rw [if_neg (show ¬ (false = true) by decide)] at H;have gY:=A_ H;clear H;have EV:=aD.out;have EW:=aG.out;obtain ⟨gZ,hD,hI,hJ,hL,hO,hU,hV,hX,hY,hZ,iA,iB,iC⟩:=C7 aB.out
     go_upto_if 217 with (fail)
     go_cut [4] (fun v4 wc => ∃ (kq : Nat) (bU : Int),v4 = .int .i64 bU ∧ Aside0 (impl_tmplOk.j6 kq l0 a1 a3 bU aI aO aL aX aS l2_5 aK = some r) ∧ Aside0 (kq ≤ uU) ∧ Aside0 (wc.heap[aJ]? = some (.cells #[.int .i64 aI,.int .i64 aO,(.slice a9 aL.length bA),(.slice bB aX.length bC),(.slice bD aS.length bE),(.slice b6 l2_5.length bF),(.slice bK aK.length bG)] 46 (0,0))) ∧ Aside0 (wc.heap[aF]? = some (.cells #[.int .i64 ((rd_T48 l0 a1).f0),(.slice A955_1 ((rd_T48 l0 a1).f1).length c955_1),(.slice A955_2 ((rd_T48 l0 a1).f2).length c955_2),.int .i64 ((rd_T48 l0 a1).f3.f0),.int .i64 ((rd_T48 l0 a1).f3.f1),(.slice A955_5 ((rd_T48 l0 a1).f3.f2).length c955_5),(.slice A955_6 ((rd_T48 l0 a1).f3.f3).length c955_6),(.slice A955_7 ((rd_T48 l0 a1).f3.f4).length c955_7),(.slice A955_8 ((rd_T48 l0 a1).f3.f5).length c955_8),(.slice aT ((rd_T48 l0 a1).f3.f6).length aU)] 48 (0,0))) ∧ Aside0 (Below w.heap.size w wc))
     case first =>
      have H:=gY.out;clear gY
      by_cases eY : aI = 3
      ·rw [if_pos eY] at H
       have dP:=e_t eY;have mJ:=n_f eY;clear eY;(first | rw [dP] | (simp only [i64_w,i32_w];rw [dP]) | skip);have H':=A_ H;clear H
       go_wp2
       go_meet
       case rel => exact ⟨_,(wrap64 (a4 + 1)),Z22,H',⟨by have:=a5.out;have:=bH.out;have:=d8.out;have:=d5.out;first | omega | exact Nat.le_refl _⟩,⟨Z1 aB.out⟩,⟨Z1 aA.out⟩,⟨Z8 GE954.out GE956.out⟩⟩
      ·rw [if_neg eY] at H
       have dP:=e_f eY;have mJ:=n_t eY;(first | rw [dP] | (simp only [i64_w,i32_w];rw [dP]) | skip);have H':=A_ H;clear H
       go_wp2
       go_meet
       case rel => exact ⟨_,(a4),Z22,H',⟨by have:=a5.out;have:=bH.out;have:=d8.out;have:=d5.out;first | omega | exact Nat.le_refl _⟩,⟨Z1 aB.out⟩,⟨Z1 aA.out⟩,⟨Z8 GE954.out GE956.out⟩⟩
     case rest =>
      clear gY gZ hD hI hJ hL hO hU hV hX hY hZ iA iB iC;obtain ⟨kq,bU,rfl,HA,gB,aB,aA,HB⟩:=hcut
      cases kq with
      | zero => exact absurd HA.out (by simp [impl_tmplOk.j6])
      | succ lH =>
       have H:=HA.out;clear HA;simp only [impl_tmplOk.j6] at H;have H':=A_ H;clear H;have EX:=aD.out;have EY:=aG.out;obtain ⟨iD,iE,iF,iG,iH,iI,iJ,iK,iL,iM,iN,iO,iP,iQ⟩:=C7 aB.out
       go_wp2
       go_loopg [223] lH (fun kq EZ w' => ∃ (aH : Int),EZ = .int .i64 aH ∧ Aside0 (impl_tmplOk.l2 kq l0 a1 a3 bU aK (aK.length : Int) aH = some r) ∧ Aside0 (kq ≤ lH) ∧ Aside0 (w'.heap[aJ]? = some (.cells #[.int .i64 aI,.int .i64 aO,(.slice a9 aL.length bA),(.slice bB aX.length bC),(.slice bD aS.length bE),(.slice b6 l2_5.length bF),(.slice bK aK.length bG)] 46 (0,0))) ∧ Aside0 (w'.heap[aF]? = some (.cells #[.int .i64 ((rd_T48 l0 a1).f0),(.slice A955_1 ((rd_T48 l0 a1).f1).length c955_1),(.slice A955_2 ((rd_T48 l0 a1).f2).length c955_2),.int .i64 ((rd_T48 l0 a1).f3.f0),.int .i64 ((rd_T48 l0 a1).f3.f1),(.slice A955_5 ((rd_T48 l0 a1).f3.f2).length c955_5),(.slice A955_6 ((rd_T48 l0 a1).f3.f3).length c955_6),(.slice A955_7 ((rd_T48 l0 a1).f3.f4).length c955_7),(.slice A955_8 ((rd_T48 l0 a1).f3.f5).length c955_8),(.slice aT ((rd_T48 l0 a1).f3.f6).length aU)] 48 (0,0))) ∧ Aside0 (Below w.heap.size w w'))
       case atStart => exact ⟨(0),Z22,H',⟨Nat.le_refl _⟩,⟨Z1 aB.out⟩,⟨Z1 aA.out⟩,⟨Z8 GE954.out GE956.out⟩⟩
       case round =>
        clear H' iD iE iF iG iH iI iJ iK iL iM iN iO iP iQ;obtain ⟨aH,rfl,HA,CN,aB,aA,HB⟩:=hrel
        cases gk with
        | zero => exact absurd HA.out (by simp [impl_tmplOk.l2])
        | succ k6 =>
         have H:=HA.out;clear HA;simp only [impl_tmplOk.l2] at H
         by_cases gD : aH < (aK.length : Int)
         ·rw [if_pos gD] at H
          have mK:=dt gD;clear gD
          by_cases kX : 0 ≤ aH
          ·rw [if_pos kX] at H
           have E0:=dt kX;clear kX
           by_cases kY : aH < (aK.length : Int)
           ·rw [if_pos kY] at H
            have E1:=dt kY;clear kY;replace H:=bS H;obtain ⟨E2,lI,H⟩:=H
            try dsimp only at H
            have uV:=A_ lI;clear lI
            by_cases kZ : E2 = true
            ·subst kZ
             rw [if_pos rfl] at H;have H':=A_ H;clear H;have eZ : 0 ≤ (aH : Int):=odt;have e0 : aH < (aK.length : Int):=odt;obtain ⟨iR,dQ,dR,dS,dT,dU,dV,dW,dX,dY,dZ,mL,cQ,cR,cS,cT,cU,cV,cW,cX,cY,cZ,dA,dB,dC,dD,dE,dF,dG⟩:=at_T46 k2.out aH eZ e0;cases mL;replace cQ:=ZC HB.out cQ;replace cR:=ZC HB.out cR;replace cS:=ZC HB.out cS;replace cT:=ZC HB.out cT;replace cU:=ZC HB.out cU;replace cV:=ZC HB.out cV;replace cW:=ZC HB.out cW;have d9:=A_ cY;have eA:=A_ cX;clear cY cX;have eB:=A_ dA;have eC:=A_ cZ;clear dA cZ;have eD:=A_ dC;have eE:=A_ dB;clear dC dB;have eF:=A_ dE;have eG:=A_ dD;clear dE dD;have eH:=A_ dG;have eI:=A_ dF;clear dG dF;replace eZ:=eq_true eZ;replace e0:=eq_true e0
             go_wp2_with (first | ((with_reducible refine gate_dst (N:=20) rfl ?_);(try (refine gate_guard (by rfl) ?_;dsimp only));refine be (cs:=#[.int .i64 0,.int .i64 0,.slice none 0 0,.slice none 0 0,.slice none 0 0,.slice none 0 0,.slice none 0 0]) (t:=46) ?_;intro bV hg HI hbox hb;have d0:=A_ hbox;have iS:=A_ (gl hg (bz (Z8 GE954.out GE956.out)));have GE974:=iS;replace HB:=A_ (bst (Z8 GE954.out GE956.out) hb);have bP:=A_ ((by rw [hg];exact nl (blk_lt (Z1 aB.out)) : aJ ≠ bV));have dH:=A_ ((by rw [hg];exact Nat.ne_of_gt (blk_lt (Z1 aB.out)) : bV ≠ aJ));replace aB:=A_ (bb (Z1 aB.out) hb);have bQ:=A_ ((by rw [hg];exact nl (blk_lt (Z1 aA.out)) : aF ≠ bV));have dI:=A_ ((by rw [hg];exact Nat.ne_of_gt (blk_lt (Z1 aA.out)) : bV ≠ aF));replace aA:=A_ (bb (Z1 aA.out) hb);clear hb hbox hg;have E3:=dH.out;have E4:=bP.out;have E5:=dI.out;have E6:=bQ.out;obtain ⟨uW,uX,uY,uZ,u0,u2,u3,u4,u5,u6,u7,u8,u9,vA⟩:=C7 d0.out) | ((with_reducible refine gate_callee (f:=25) rfl ?_);refine gL 233 Try.func25 #[.slice (some e1) l0.length c0,.int .i64 a1,.agg #[.int .i64 ((rd_T46 aK aH).f0),.int .i64 ((rd_T46 aK aH).f1),.slice dQ ((rd_T46 aK aH).f2).length dR,.slice dS ((rd_T46 aK aH).f3).length dT,.slice dU ((rd_T46 aK aH).f4).length dV,.slice dW ((rd_T46 aK aH).f5).length dX,.slice dY ((rd_T46 aK aH).f6).length dZ],.int .i64 (wrap64 (a3 + 1)),.int .i64 bU] ?_;(with_reducible refine (ih k6 (by have:=a5.out;have:=bH.out;have:=d8.out;have:=d5.out;have:=gB.out;have:=CN.out;omega) _ _ l0 a1 ((rd_T46 aK aH).f0) ((rd_T46 aK aH).f1) _ _ ((rd_T46 aK aH).f2) _ _ ((rd_T46 aK aH).f3) _ _ ((rd_T46 aK aH).f4) _ _ ((rd_T46 aK aH).f5) _ _ ((rd_T46 aK aH).f6) (wrap64 (a3 + 1)) bU true _ ?s1 FB.out ?s3 eA.out ?s5 eC.out ?s7 eE.out ?s9 eG.out ?s11 eI.out uV.out).mono ?_);(case s1 => exact Kd.C_below mU.out Z31);(case s3 => exact Kd.C_below d9.out Z31);(case s5 => exact Kd.C_below eB.out Z31);(case s7 => exact Kd.C_below eD.out Z31);(case s9 => exact Kd.C_below eF.out Z31);(case s11 => exact Kd.C_below eH.out Z31);rintro e HJ ⟨rfl,hb⟩;refine ⟨_,rfl,?_⟩;replace aB:=A_ (bb (g:=aJ) (o:=.cells #[.int .i64 aI,.int .i64 aO,.slice a9 aL.length bA,.slice bB aX.length bC,.slice bD aS.length bE,.slice b6 l2_5.length bF,.slice (some iR) aK.length bG] 46 (0,0)) (Z14 bP.out aB.out) hb);replace aA:=A_ (bb (g:=aF) (o:=.cells #[.int .i64 ((rd_T48 l0 a1).f0),.slice A955_1 ((rd_T48 l0 a1).f1).length c955_1,.slice A955_2 ((rd_T48 l0 a1).f2).length c955_2,.int .i64 ((rd_T48 l0 a1).f3.f0),.int .i64 ((rd_T48 l0 a1).f3.f1),.slice A955_5 ((rd_T48 l0 a1).f3.f2).length c955_5,.slice A955_6 ((rd_T48 l0 a1).f3.f3).length c955_6,.slice A955_7 ((rd_T48 l0 a1).f3.f4).length c955_7,.slice A955_8 ((rd_T48 l0 a1).f3.f5).length c955_8,.slice aT ((rd_T48 l0 a1).f3.f6).length aU] 48 (0,0)) (Z14 bQ.out aA.out) hb);replace d0:=A_ (bb (g:=bV) (o:=.cells #[.int .i64 ((rd_T46 aK aH).f0),.int .i64 ((rd_T46 aK aH).f1),.slice dQ ((rd_T46 aK aH).f2).length dR,.slice dS ((rd_T46 aK aH).f3).length dT,.slice dU ((rd_T46 aK aH).f4).length dV,.slice dW ((rd_T46 aK aH).f5).length dX,.slice dY ((rd_T46 aK aH).f6).length dZ] 46 (0,0)) (bp0 d0.out) hb);replace HB:=A_ (bst Z31 hb);(try clear hb)))
             go_roundg k6
             case measure => have:=a5.out;have:=bH.out;have:=d8.out;have:=d5.out;have:=gB.out;have:=CN.out;omega
             case rel => exact ⟨(wrap64 (aH + 1)),Z22,H',⟨by have:=a5.out;have:=bH.out;have:=d8.out;have:=d5.out;have:=gB.out;have:=CN.out;omega⟩,⟨Z1 aB.out⟩,⟨Z1 aA.out⟩,⟨Z31⟩⟩
            ·replace kZ:=Bool.eq_false_iff.mpr kZ
             subst kZ;rw [if_neg (show ¬ (false = true) by decide)] at H;obtain rfl:=Option.some.inj H;have eZ : 0 ≤ (aH : Int):=odt;have e0 : aH < (aK.length : Int):=odt;obtain ⟨iR,dQ,dR,dS,dT,dU,dV,dW,dX,dY,dZ,mL,cQ,cR,cS,cT,cU,cV,cW,cX,cY,cZ,dA,dB,dC,dD,dE,dF,dG⟩:=at_T46 k2.out aH eZ e0;cases mL;replace cQ:=ZC HB.out cQ;replace cR:=ZC HB.out cR;replace cS:=ZC HB.out cS;replace cT:=ZC HB.out cT;replace cU:=ZC HB.out cU;replace cV:=ZC HB.out cV;replace cW:=ZC HB.out cW;have d9:=A_ cY;have eA:=A_ cX;clear cY cX;have eB:=A_ dA;have eC:=A_ cZ;clear dA cZ;have eD:=A_ dC;have eE:=A_ dB;clear dC dB;have eF:=A_ dE;have eG:=A_ dD;clear dE dD;have eH:=A_ dG;have eI:=A_ dF;clear dG dF;replace eZ:=eq_true eZ;replace e0:=eq_true e0
             go_wp2_with (first | ((with_reducible refine gate_dst (N:=20) rfl ?_);(try (refine gate_guard (by rfl) ?_;dsimp only));refine be (cs:=#[.int .i64 0,.int .i64 0,.slice none 0 0,.slice none 0 0,.slice none 0 0,.slice none 0 0,.slice none 0 0]) (t:=46) ?_;intro bV hg HL hbox hb;have d0:=A_ hbox;have iS:=A_ (gl hg (bz (Z8 GE954.out GE956.out)));have GE974:=iS;replace HB:=A_ (bst (Z8 GE954.out GE956.out) hb);have bP:=A_ ((by rw [hg];exact nl (blk_lt (Z1 aB.out)) : aJ ≠ bV));have dH:=A_ ((by rw [hg];exact Nat.ne_of_gt (blk_lt (Z1 aB.out)) : bV ≠ aJ));replace aB:=A_ (bb (Z1 aB.out) hb);have bQ:=A_ ((by rw [hg];exact nl (blk_lt (Z1 aA.out)) : aF ≠ bV));have dI:=A_ ((by rw [hg];exact Nat.ne_of_gt (blk_lt (Z1 aA.out)) : bV ≠ aF));replace aA:=A_ (bb (Z1 aA.out) hb);clear hb hbox hg;have E7:=dH.out;have E8:=bP.out;have E9:=dI.out;have FA:=bQ.out;obtain ⟨vB,vC,vD,vE,vF,vG,vH,vI,vJ,vK,vL,vM,vN,vO⟩:=C7 d0.out) | ((with_reducible refine gate_callee (f:=25) rfl ?_);refine gL 233 Try.func25 #[.slice (some e1) l0.length c0,.int .i64 a1,.agg #[.int .i64 ((rd_T46 aK aH).f0),.int .i64 ((rd_T46 aK aH).f1),.slice dQ ((rd_T46 aK aH).f2).length dR,.slice dS ((rd_T46 aK aH).f3).length dT,.slice dU ((rd_T46 aK aH).f4).length dV,.slice dW ((rd_T46 aK aH).f5).length dX,.slice dY ((rd_T46 aK aH).f6).length dZ],.int .i64 (wrap64 (a3 + 1)),.int .i64 bU] ?_;(with_reducible refine (ih k6 (by have:=a5.out;have:=bH.out;have:=d8.out;have:=d5.out;have:=gB.out;have:=CN.out;omega) _ _ l0 a1 ((rd_T46 aK aH).f0) ((rd_T46 aK aH).f1) _ _ ((rd_T46 aK aH).f2) _ _ ((rd_T46 aK aH).f3) _ _ ((rd_T46 aK aH).f4) _ _ ((rd_T46 aK aH).f5) _ _ ((rd_T46 aK aH).f6) (wrap64 (a3 + 1)) bU false _ ?s1 FB.out ?s3 eA.out ?s5 eC.out ?s7 eE.out ?s9 eG.out ?s11 eI.out uV.out).mono ?_);(case s1 => exact Kd.C_below mU.out Z31);(case s3 => exact Kd.C_below d9.out Z31);(case s5 => exact Kd.C_below eB.out Z31);(case s7 => exact Kd.C_below eD.out Z31);(case s9 => exact Kd.C_below eF.out Z31);(case s11 => exact Kd.C_below eH.out Z31);rintro e HM ⟨rfl,hb⟩;refine ⟨_,rfl,?_⟩;replace aB:=A_ (bb (g:=aJ) (o:=.cells #[.int .i64 aI,.int .i64 aO,.slice a9 aL.length bA,.slice bB aX.length bC,.slice bD aS.length bE,.slice b6 l2_5.length bF,.slice (some iR) aK.length bG] 46 (0,0)) (Z14 bP.out aB.out) hb);replace aA:=A_ (bb (g:=aF) (o:=.cells #[.int .i64 ((rd_T48 l0 a1).f0),.slice A955_1 ((rd_T48 l0 a1).f1).length c955_1,.slice A955_2 ((rd_T48 l0 a1).f2).length c955_2,.int .i64 ((rd_T48 l0 a1).f3.f0),.int .i64 ((rd_T48 l0 a1).f3.f1),.slice A955_5 ((rd_T48 l0 a1).f3.f2).length c955_5,.slice A955_6 ((rd_T48 l0 a1).f3.f3).length c955_6,.slice A955_7 ((rd_T48 l0 a1).f3.f4).length c955_7,.slice A955_8 ((rd_T48 l0 a1).f3.f5).length c955_8,.slice aT ((rd_T48 l0 a1).f3.f6).length aU] 48 (0,0)) (Z14 bQ.out aA.out) hb);replace d0:=A_ (bb (g:=bV) (o:=.cells #[.int .i64 ((rd_T46 aK aH).f0),.int .i64 ((rd_T46 aK aH).f1),.slice dQ ((rd_T46 aK aH).f2).length dR,.slice dS ((rd_T46 aK aH).f3).length dT,.slice dU ((rd_T46 aK aH).f4).length dV,.slice dW ((rd_T46 aK aH).f5).length dX,.slice dY ((rd_T46 aK aH).f6).length dZ] 46 (0,0)) (bp0 d0.out) hb);replace HB:=A_ (bst Z31 hb);(try clear hb)))
             go_ret
             exact ⟨Z12,Z31⟩
           ·rw [if_neg kY] at H
            exact absurd H (by simp)
          ·rw [if_neg kX] at H
           exact absurd H (by simp)
         ·rw [if_neg gD] at H
          have mK:=df gD;clear gD;obtain rfl:=Option.some.inj H
          go_wp2
          go_ret
          exact ⟨Z12,Z8 GE954.out GE956.out⟩
theorem impl_tmplOk.calls (k : Nat) : ∀ (A0 : Option Addr) (c0 : Nat) (l0 : List (S48)) (a1 : Int) (aI : Int) (aO : Int) (a9 : Option Addr) (bA : Nat) (aL : List Int) (bB : Option Addr) (bC : Nat) (aX : List (List (S70))) (bD : Option Addr) (bE : Nat) (aS : List (S70)) (b6 : Option Addr) (bF : Nat) (l2_5 : List (S76)) (bK : Option Addr) (bG : Nat) (aK : List (S46)) (a3 : Int) (a4 : Int) (r : Bool) (w : World) (CO : Kd.C k48 w A0 l0.length l0) (hc0 : l0.length ≤ c0) (gE : Kd.C (Kd.int .i64) w a9 aL.length aL) (gF : aL.length ≤ bA) (gG : Kd.C (Kd.slice 70 k70) w bB aX.length aX) (gH : aX.length ≤ bC) (gI : Kd.C k70 w bD aS.length aS) (gJ : aS.length ≤ bE) (gK : Kd.C k76 w b6 l2_5.length l2_5) (gM : l2_5.length ≤ bF) (gN : Kd.C k46 w bK aK.length aK) (gO : aK.length ≤ bG) (h : impl_tmplOk.f k l0 a1 aI aO aL aX aS l2_5 aK a3 a4 = some r),
  Calls Try.prog 25 #[.slice A0 l0.length c0,.int .i64 a1,.agg #[.int .i64 aI,.int .i64 aO,.slice a9 aL.length bA,.slice bB aX.length bC,.slice bD aS.length bE,.slice b6 l2_5.length bF,.slice bK aK.length bG],.int .i64 a3,.int .i64 a4] w fun e w' => e = .returned (.bool r) ∧ Below w.heap.size w w':=impl_tmplOk.S1.2 (impl_tmplOk.S2.2 impl_tmplOk.b) k
end Go.Proofs.Ytmgdjmeoljepgaa.PFnProgBelow
