/- Walks (lines of the print; no condition). -/
import Derived.Test.YtmgdjmeoljepgaaZFnProgBelowQFnProgBelowx20
namespace Go.Proofs.Ytmgdjmeoljepgaa.PFnProgBelow
open Go.RowKit Go.Proofs.YtmgdjmeoljepgaaW.PrintWords Go.Proofs.YtmgdjmeoljepgaaW.PrintLast Go.Proofs.YtmgdjmeoljepgaaW.PrintMore
attribute [local go_sem] max2_int min2_int max_two min_two max_three min_three max_four min_four
set_option linter.unusedVariables false
set_option linter.unusedSimpArgs false
mutual
def impl_tmplOk.j0 : Nat → List (S48) → Int → Int → Int → Bool → Int → Int → List Int → List (List (S70)) → List (S70) → List (S76) → List (S46) → Int → List (S67) → List (List (S57)) → Int → Int → List Int → List (List (S70)) → List (S70) → List (S76) → List (S46) → Option (Bool)
 | 0,_,_,_,_,_,_,_,_,_,_,_,_,_,_,_,_,_,_,_,_,_,_ => none
 | k + 1,x0,x1,x3,x4,bO,aA,aB,aC,aF,aG,aD,aE,aI,aJ,aH,aK,aL,aM,aN,aO,aP,aQ => if bO = true then (some false) else (if aA = 0 then (impl_tmplOk.j1 k x0 x1 x3 x4 (aB != 0) aA aB aC aF aG aD aE aI aJ aH aK aL aM aN aO aP aQ) else (if aA = 2 then (impl_tmplOk.j1 k x0 x1 x3 x4 (aB != 0) aA aB aC aF aG aD aE aI aJ aH aK aL aM aN aO aP aQ) else (if aA = 3 then (impl_tmplOk.j1 k x0 x1 x3 x4 (aB != 0) aA aB aC aF aG aD aE aI aJ aH aK aL aM aN aO aP aQ) else (impl_tmplOk.j1 k x0 x1 x3 x4 false aA aB aC aF aG aD aE aI aJ aH aK aL aM aN aO aP aQ))))
def impl_tmplOk.j1 : Nat → List (S48) → Int → Int → Int → Bool → Int → Int → List Int → List (List (S70)) → List (S70) → List (S76) → List (S46) → Int → List (S67) → List (List (S57)) → Int → Int → List Int → List (List (S70)) → List (S70) → List (S76) → List (S46) → Option (Bool)
 | 0,_,_,_,_,_,_,_,_,_,_,_,_,_,_,_,_,_,_,_,_,_,_ => none
 | k + 1,x0,x1,x3,x4,bP,aA,aB,aC,aF,aG,aD,aE,aI,aJ,aH,aK,aL,aM,aN,aO,aP,aQ => if bP = true then (some false) else (if aA = 0 then (impl_tmplOk.j4 k x0 x1 x3 x4 1 0 0 aA aB aC aF aG aD aE aI aJ aH aK aL aM aN aO aP aQ) else (if aA = 1 then ((impl_within.f aB 0 4).bind fun bB => (if bB = true then (impl_tmplOk.l0 k x0 x1 x3 x4 (aC.length : Int) 0 4 aC (aC.length : Int) 0 aA aB aC aF aG aD aE aI aJ aH aK aL aM aN aO aP aQ) else (some false))) else (if aA = 2 then (impl_tmplOk.j4 k x0 x1 x3 x4 1 1 2 aA aB aC aF aG aD aE aI aJ aH aK aL aM aN aO aP aQ) else (if aA = 3 then (if (aG.length : Int) > 0 then ((impl_FormOk.f k aG aI (aJ.length : Int) (wrap64 (x4 + 1))).bind fun bC => (if bC = true then (impl_tmplOk.j4 k x0 x1 x3 x4 1 1 1 aA aB aC aF aG aD aE aI aJ aH aK aL aM aN aO aP aQ) else (some false))) else (impl_tmplOk.j4 k x0 x1 x3 x4 1 1 1 aA aB aC aF aG aD aE aI aJ aH aK aL aM aN aO aP aQ)) else (if aA = 4 then ((impl_within.f aB (wrap64 (x1 + 1)) (wrap64 ((x0.length : Int) - 1))).bind fun bD => (if bD = true then (if 0 ≤ aB then (if aB < (x0.length : Int) then (impl_tmplOk.j4 k x0 x1 x3 x4 ((rd_T48 x0 aB).f0) 0 0 aA aB aC aF aG aD aE aI aJ aH aK aL aM aN aO aP aQ) else (none)) else (none)) else (some false))) else (if aA = 5 then ((impl_within.f aB 0 1).bind fun bE => (if bE = true then (impl_tmplOk.j4 k x0 x1 x3 x4 1 0 4 aA aB aC aF aG aD aE aI aJ aH aK aL aM aN aO aP aQ) else (some false))) else (some false)))))))
def impl_tmplOk.j4 : Nat → List (S48) → Int → Int → Int → Int → Int → Int → Int → Int → List Int → List (List (S70)) → List (S70) → List (S76) → List (S46) → Int → List (S67) → List (List (S57)) → Int → Int → List Int → List (List (S70)) → List (S70) → List (S76) → List (S46) → Option (Bool)
 | 0,_,_,_,_,_,_,_,_,_,_,_,_,_,_,_,_,_,_,_,_,_,_,_,_ => none
 | k + 1,x0,x1,x3,x4,a5,a6,a7,aA,aB,aC,aF,aG,aD,aE,aI,aJ,aH,aK,aL,aM,aN,aO,aP,aQ => if (aF.length : Int) = a5 then ((impl_within.f (aE.length : Int) a6 a7).bind fun bF => (if bF = true then ((impl_formsOk.f k aI aJ aH aK aL aM aN aO aP aQ aF x4).bind fun bG => (impl_tmplOk.j5 k x0 x1 x3 x4 (!bG) aA aB aC aF aG aD aE)) else (impl_tmplOk.j5 k x0 x1 x3 x4 true aA aB aC aF aG aD aE))) else (impl_tmplOk.j5 k x0 x1 x3 x4 true aA aB aC aF aG aD aE)
def impl_tmplOk.j5 : Nat → List (S48) → Int → Int → Int → Bool → Int → Int → List Int → List (List (S70)) → List (S70) → List (S76) → List (S46) → Option (Bool)
 | 0,_,_,_,_,_,_,_,_,_,_,_,_ => none
 | k + 1,x0,x1,x3,x4,bH,aA,aB,aC,aF,aG,aD,aE => if bH = true then (some false) else (if aA = 3 then (impl_tmplOk.j6 k x0 x1 x3 (wrap64 (x4 + 1)) aA aB aC aF aG aD aE) else (impl_tmplOk.j6 k x0 x1 x3 x4 aA aB aC aF aG aD aE))
def impl_tmplOk.j6 : Nat → List (S48) → Int → Int → Int → Int → Int → List Int → List (List (S70)) → List (S70) → List (S76) → List (S46) → Option (Bool)
 | 0,_,_,_,_,_,_,_,_,_,_,_ => none
 | k + 1,x0,x1,x3,x4,aA,aB,aC,aF,aG,aD,aE => impl_tmplOk.l2 k x0 x1 x3 x4 aE (aE.length : Int) 0
def impl_tmplOk.l2 : Nat → List (S48) → Int → Int → Int → List (S46) → Int → Int → Option (Bool)
 | 0,_,_,_,_,_,_,_ => none
 | k + 1,x0,x1,x3,x4,aT,a9,aS => if aS < a9 then (if 0 ≤ aS then (if aS < (aT.length : Int) then ((impl_tmplOk.f k x0 x1 ((rd_T46 aT aS).f0) ((rd_T46 aT aS).f1) ((rd_T46 aT aS).f2) ((rd_T46 aT aS).f3) ((rd_T46 aT aS).f4) ((rd_T46 aT aS).f5) ((rd_T46 aT aS).f6) (wrap64 (x3 + 1)) x4).bind fun bI => (if bI = true then (impl_tmplOk.l2 k x0 x1 x3 x4 aT a9 (wrap64 (aS + 1))) else (some false))) else (none)) else (none)) else (some true)
def impl_tmplOk.l0 : Nat → List (S48) → Int → Int → Int → Int → Int → Int → List Int → Int → Int → Int → Int → List Int → List (List (S70)) → List (S70) → List (S76) → List (S46) → Int → List (S67) → List (List (S57)) → Int → Int → List Int → List (List (S70)) → List (S70) → List (S76) → List (S46) → Option (Bool)
 | 0,_,_,_,_,_,_,_,_,_,_,_,_,_,_,_,_,_,_,_,_,_,_,_,_,_,_,_ => none
 | k + 1,x0,x1,x3,x4,a5,a6,a7,bA,bJ,a2,aA,aB,aC,aF,aG,aD,aE,aI,aJ,aH,aK,aL,aM,aN,aO,aP,aQ => if a2 < bJ then (if 0 ≤ a2 then (if a2 < (bA.length : Int) then ((impl_within.f (rd bA a2) 0 3).bind fun bK => (if bK = true then (if a2 > 0 then (if 0 ≤ (wrap64 (a2 - 1)) then (if (wrap64 (a2 - 1)) < (aC.length : Int) then (if (rd bA a2) ≤ (rd aC (wrap64 (a2 - 1))) then (some false) else (impl_tmplOk.l0 k x0 x1 x3 x4 a5 a6 a7 bA bJ (wrap64 (a2 + 1)) aA aB aC aF aG aD aE aI aJ aH aK aL aM aN aO aP aQ)) else (none)) else (none)) else (impl_tmplOk.l0 k x0 x1 x3 x4 a5 a6 a7 bA bJ (wrap64 (a2 + 1)) aA aB aC aF aG aD aE aI aJ aH aK aL aM aN aO aP aQ)) else (some false))) else (none)) else (none)) else (impl_tmplOk.l1 k x0 x1 x3 x4 a5 a6 a7 aD (aD.length : Int) 0 aA aB aC aF aG aD aE aI aJ aH aK aL aM aN aO aP aQ)
def impl_tmplOk.l1 : Nat → List (S48) → Int → Int → Int → Int → Int → Int → List (S76) → Int → Int → Int → Int → List Int → List (List (S70)) → List (S70) → List (S76) → List (S46) → Int → List (S67) → List (List (S57)) → Int → Int → List Int → List (List (S70)) → List (S70) → List (S76) → List (S46) → Option (Bool)
 | 0,_,_,_,_,_,_,_,_,_,_,_,_,_,_,_,_,_,_,_,_,_,_,_,_,_,_,_ => none
 | k + 1,x0,x1,x3,x4,a5,a6,a7,aW,a8,aR,aA,aB,aC,aF,aG,aD,aE,aI,aJ,aH,aK,aL,aM,aN,aO,aP,aQ => if aR < a8 then (if 0 ≤ aR then (if aR < (aW.length : Int) then ((impl_within.f ((rd_T76 aW aR).f0) 0 2).bind fun bL => (if bL = true then (if aR > 0 then (if 0 ≤ (wrap64 (aR - 1)) then (if (wrap64 (aR - 1)) < (aD.length : Int) then (if ((rd_T76 aW aR).f0) ≤ ((rd_T76 aD (wrap64 (aR - 1))).f0) then (some false) else ((impl_within.f ((rd_T76 aW aR).f1) 0 (wrap64 ((aH.length : Int) - 1))).bind fun bM => (if bM = true then (impl_tmplOk.l1 k x0 x1 x3 x4 a5 a6 a7 aW a8 (wrap64 (aR + 1)) aA aB aC aF aG aD aE aI aJ aH aK aL aM aN aO aP aQ) else (some false)))) else (none)) else (none)) else ((impl_within.f ((rd_T76 aW aR).f1) 0 (wrap64 ((aH.length : Int) - 1))).bind fun bN => (if bN = true then (impl_tmplOk.l1 k x0 x1 x3 x4 a5 a6 a7 aW a8 (wrap64 (aR + 1)) aA aB aC aF aG aD aE aI aJ aH aK aL aM aN aO aP aQ) else (some false)))) else (some false))) else (none)) else (none)) else (impl_tmplOk.j4 k x0 x1 x3 x4 a5 a6 a7 aA aB aC aF aG aD aE aI aJ aH aK aL aM aN aO aP aQ)
def impl_tmplOk.f : Nat → List (S48) → Int → Int → Int → List Int → List (List (S70)) → List (S70) → List (S76) → List (S46) → Int → Int → Option (Bool)
 | 0,_,_,_,_,_,_,_,_,_,_,_ => none
 | k + 1,l0,a1,aU,aY,aX,aZ,aV,l2_5,a0,a3,a4 => if 0 ≤ a1 then (if a1 < (l0.length : Int) then (if a3 > 4 then (some false) else (if aU = 1 then (if aU = 3 then (impl_tmplOk.j0 k l0 a1 a3 a4 false aU aY aX aZ aV l2_5 a0 ((rd_T48 l0 a1).f0) ((rd_T48 l0 a1).f1) ((rd_T48 l0 a1).f2) ((rd_T48 l0 a1).f3.f0) ((rd_T48 l0 a1).f3.f1) ((rd_T48 l0 a1).f3.f2) ((rd_T48 l0 a1).f3.f3) ((rd_T48 l0 a1).f3.f4) ((rd_T48 l0 a1).f3.f5) ((rd_T48 l0 a1).f3.f6)) else (impl_tmplOk.j0 k l0 a1 a3 a4 (decide ((aV.length : Int) > 0)) aU aY aX aZ aV l2_5 a0 ((rd_T48 l0 a1).f0) ((rd_T48 l0 a1).f1) ((rd_T48 l0 a1).f2) ((rd_T48 l0 a1).f3.f0) ((rd_T48 l0 a1).f3.f1) ((rd_T48 l0 a1).f3.f2) ((rd_T48 l0 a1).f3.f3) ((rd_T48 l0 a1).f3.f4) ((rd_T48 l0 a1).f3.f5) ((rd_T48 l0 a1).f3.f6))) else (if (aX.length : Int) > 0 then (impl_tmplOk.j0 k l0 a1 a3 a4 true aU aY aX aZ aV l2_5 a0 ((rd_T48 l0 a1).f0) ((rd_T48 l0 a1).f1) ((rd_T48 l0 a1).f2) ((rd_T48 l0 a1).f3.f0) ((rd_T48 l0 a1).f3.f1) ((rd_T48 l0 a1).f3.f2) ((rd_T48 l0 a1).f3.f3) ((rd_T48 l0 a1).f3.f4) ((rd_T48 l0 a1).f3.f5) ((rd_T48 l0 a1).f3.f6)) else (if (l2_5.length : Int) > 0 then (impl_tmplOk.j0 k l0 a1 a3 a4 true aU aY aX aZ aV l2_5 a0 ((rd_T48 l0 a1).f0) ((rd_T48 l0 a1).f1) ((rd_T48 l0 a1).f2) ((rd_T48 l0 a1).f3.f0) ((rd_T48 l0 a1).f3.f1) ((rd_T48 l0 a1).f3.f2) ((rd_T48 l0 a1).f3.f3) ((rd_T48 l0 a1).f3.f4) ((rd_T48 l0 a1).f3.f5) ((rd_T48 l0 a1).f3.f6)) else (if aU = 3 then (impl_tmplOk.j0 k l0 a1 a3 a4 false aU aY aX aZ aV l2_5 a0 ((rd_T48 l0 a1).f0) ((rd_T48 l0 a1).f1) ((rd_T48 l0 a1).f2) ((rd_T48 l0 a1).f3.f0) ((rd_T48 l0 a1).f3.f1) ((rd_T48 l0 a1).f3.f2) ((rd_T48 l0 a1).f3.f3) ((rd_T48 l0 a1).f3.f4) ((rd_T48 l0 a1).f3.f5) ((rd_T48 l0 a1).f3.f6)) else (impl_tmplOk.j0 k l0 a1 a3 a4 (decide ((aV.length : Int) > 0)) aU aY aX aZ aV l2_5 a0 ((rd_T48 l0 a1).f0) ((rd_T48 l0 a1).f1) ((rd_T48 l0 a1).f2) ((rd_T48 l0 a1).f3.f0) ((rd_T48 l0 a1).f3.f1) ((rd_T48 l0 a1).f3.f2) ((rd_T48 l0 a1).f3.f3) ((rd_T48 l0 a1).f3.f4) ((rd_T48 l0 a1).f3.f5) ((rd_T48 l0 a1).f3.f6))))))) else (none)) else (none)
end
def impl_tmplOk.T25 : Bool × List (List Nat × List Nat):=(true,[([],[]),([0],[0]),([1],[1]),([2],[2]),([3,2],[3]),([4],[4]),([5,4],[4,5]),([6,4,4],[4,6]),([7],[7]),([8,7],[7,8]),([7],[7]),([10,7],[7,10]),([7],[7]),([12,7],[7,12]),([11,13,7],[7,11,13]),([14,7],[7,14]),([15,7],[7,15]),([9,16,7],[7,9,16]),([7,17,4],[4,7,17]),([4,18],[4,18]),([19,7],[19]),([20],[20]),([21,20],[20,21]),([20],[20]),([23,20],[20,23]),([24,20],[20,24]),([25,20],[20,25]),([22,26,20,20],[20,22,26]),([27,20],[20,27]),([20,28],[20,28])])
def impl_tmplOk.B25 : List Nat:=[0,1,3,7,15,31,63,127,255,511,255,1279,255,4351,15615,31999,64767,131071,262143,524287,1048575,2097151,4194303,2097151,10485759,27262975,60817407,134217727,268435455,536870911]
theorem impl_tmplOk.tab25 : rtab .any (opsOf Try.f25 25) = impl_tmplOk.T25:=by kernel_rfl
theorem impl_tmplOk.bits25 : waitsOk impl_tmplOk.T25.2 impl_tmplOk.B25 = true:=by kernel_rfl
set_option maxHeartbeats 8000000 in
set_option maxRecDepth 100000 in
def impl_tmplOk.S1 : {T : Prop // T → ∀ (k : Nat),∀ (A0 : Option Addr) (c0 : Nat) (l0 : List (S48)) (a1 : Int) (aI : Int) (aO : Int) (a9 : Option Addr) (bA : Nat) (aL : List Int) (bB : Option Addr) (bC : Nat) (aX : List (List (S70))) (bD : Option Addr) (bE : Nat) (aS : List (S70)) (b6 : Option Addr) (bF : Nat) (l2_5 : List (S76)) (bK : Option Addr) (bG : Nat) (aK : List (S46)) (a3 : Int) (a4 : Int) (r : Bool) (w : World) (CO : Kd.C k48 w A0 l0.length l0) (hc0 : l0.length ≤ c0) (gE : Kd.C (Kd.int .i64) w a9 aL.length aL) (gF : aL.length ≤ bA) (gG : Kd.C (Kd.slice 70 k70) w bB aX.length aX) (gH : aX.length ≤ bC) (gI : Kd.C k70 w bD aS.length aS) (gJ : aS.length ≤ bE) (gK : Kd.C k76 w b6 l2_5.length l2_5) (gM : l2_5.length ≤ bF) (gN : Kd.C k46 w bK aK.length aK) (gO : aK.length ≤ bG) (h : impl_tmplOk.f k l0 a1 aI aO aL aX aS l2_5 aK a3 a4 = some r),
  Calls Try.prog 25 #[.slice A0 l0.length c0,.int .i64 a1,.agg #[.int .i64 aI,.int .i64 aO,.slice a9 aL.length bA,.slice bB aX.length bC,.slice bD aS.length bE,.slice b6 l2_5.length bF,.slice bK aK.length bG],.int .i64 a3,.int .i64 a4] w fun e w' => e = .returned (.bool r) ∧ Below w.heap.size w w'}:=by
 apply @Subtype.mk _ _ _ ?h_
 case h_ =>
  intro mN_ k
  induction k using Nat.strongRecOn with
  | _ k ih =>
  intro A0 c0 l0 a1 aI aO a9 bA aL bB bC aX bD bE aS b6 bF l2_5 bK bG aK a3 a4 r w CO hc0 gE gF gG gH gI gJ gK gM gN gO h
  cases k with
  | zero => exact absurd h (by simp [impl_tmplOk.f])
  | succ k =>
  simp only [impl_tmplOk.f] at h;have GY:=Try.underlying46;have GZ:=Try.underlying48;have G0:=Try.underlying76;have mU:=A_ CO;have FB:=A_ hc0;clear CO hc0;have d2:=A_ gE;have FC:=A_ gF;clear gE gF;have mV:=A_ gG;have mW:=A_ gH;clear gG gH;have k0:=A_ gI;have k1:=A_ gJ;clear gI gJ;have b9:=A_ gK;have FD:=A_ gM;clear gK gM;have k2:=A_ gN;have FE:=A_ gO;clear gN gO;have HB:=A_ (Below.refl w.heap.size w);have H:=h;unfold impl_tmplOk.f at H;clear h
  by_cases c6 : 0 ≤ a1
  ·rw [if_pos c6] at H
   have CP:=dt c6;clear c6
   by_cases c7 : a1 < (l0.length : Int)
   ·rw [if_pos c7] at H
    have CQ:=dt c7;clear c7
    by_cases c8 : a3 > 4
    ·rw [if_pos c8] at H
     have mX : decide (4 < a3) = true:=dt c8;clear c8;obtain rfl:=Option.some.inj H
     go_enter Try.func25,Try.ntmps25
     go_wp2_with (first | ((with_reducible refine gate_dst (N:=7) rfl ?_);(try (refine gate_guard (by rfl) ?_;dsimp only));refine be (cs:=#[.int .i64 aI,.int .i64 aO,.slice a9 aL.length bA,.slice bB aX.length bC,.slice bD aS.length bE,.slice b6 l2_5.length bF,.slice bK aK.length bG]) (t:=46) ?_;intro aJ hg w9 hbox hb;have aB:=A_ hbox;have gP:=A_ (gl hg (bz Z2));have GE954:=gP;replace HB:=A_ (bst Z2 hb);clear hb hbox hg;have eJ : 0 ≤ (a1 : Int):=odt;have eK : a1 < (l0.length : Int):=odt;obtain ⟨e1,A955_1,c955_1,A955_2,c955_2,A955_5,c955_5,A955_6,c955_6,A955_7,c955_7,A955_8,c955_8,aT,aU,lJ,bW,bX,bY,bZ,b0,b1,b2,b3,b4,b5,cA,cB,cC,cD,cE,cF,cG,cH,cI,cJ,cK,cL,cM,cN⟩:=at_T48 mU.out a1 eJ eK;cases lJ;replace bW:=ZC HB.out bW;replace bX:=ZC HB.out bX;replace bY:=ZC HB.out bY;replace bZ:=ZC HB.out bZ;replace b0:=ZC HB.out b0;replace b1:=ZC HB.out b1;replace b2:=ZC HB.out b2;replace b3:=ZC HB.out b3;replace b4:=ZC HB.out b4;replace b5:=ZC HB.out b5;have e2:=A_ cB;have e3:=A_ cA;clear cB cA;have e4:=A_ cD;have e5:=A_ cC;clear cD cC;have e6:=A_ cF;have e7:=A_ cE;clear cF cE;have e8:=A_ cH;have e9:=A_ cG;clear cH cG;have fA:=A_ cJ;have fB:=A_ cI;clear cJ cI;have fC:=A_ cL;have fD:=A_ cK;clear cL cK;have fE:=A_ cN;have fF:=A_ cM;clear cN cM;replace eJ:=eq_true eJ;replace eK:=eq_true eK) | ((with_reducible refine gate_dst (N:=11) rfl ?_);(try (refine gate_guard (by rfl) ?_;dsimp only));refine be (cs:=#[.int .i64 0,.slice none 0 0,.slice none 0 0,.int .i64 0,.int .i64 0,.slice none 0 0,.slice none 0 0,.slice none 0 0,.slice none 0 0,.slice none 0 0]) (t:=48) ?_;intro aF hg HN hbox hb;have aA:=A_ hbox;have gQ:=A_ (gl hg (bz (Z3 GE954.out)));have GE956:=gQ;replace HB:=A_ (bst (Z3 GE954.out) hb);have aD:=A_ ((by rw [hg];exact nl (blk_lt (Z1 aB.out)) : aJ ≠ aF));have aG:=A_ ((by rw [hg];exact Nat.ne_of_gt (blk_lt (Z1 aB.out)) : aF ≠ aJ));replace aB:=A_ (bb (Z1 aB.out) hb);clear hb hbox hg;have FF:=aG.out;have FG:=aD.out;obtain ⟨vP,vQ,vR,vS,vT,vU,vV,vW,vX,vY,vZ,wA,wB,wC,wD,wE,wF,wG,wH,wI⟩:=C10 aA.out))
     go_ret
     exact ⟨Z12,Z8 GE954.out GE956.out⟩
    ·rw [if_neg c8] at H
     have mX : decide (4 < a3) = false:=df c8;clear c8;have lK:=A_ H;clear H
     go_enter Try.func25,Try.ntmps25
     go_upto_region 4 with (first | ((with_reducible refine gate_dst (N:=7) rfl ?_);(try (refine gate_guard (by rfl) ?_;dsimp only));refine be (cs:=#[.int .i64 aI,.int .i64 aO,.slice a9 aL.length bA,.slice bB aX.length bC,.slice bD aS.length bE,.slice b6 l2_5.length bF,.slice bK aK.length bG]) (t:=46) ?_;intro aJ hg HP hbox hb;have aB:=A_ hbox;have gP:=A_ (gl hg (bz Z2));have GE954:=gP;replace HB:=A_ (bst Z2 hb);clear hb hbox hg;have eJ : 0 ≤ (a1 : Int):=odt;have eK : a1 < (l0.length : Int):=odt;obtain ⟨e1,A955_1,c955_1,A955_2,c955_2,A955_5,c955_5,A955_6,c955_6,A955_7,c955_7,A955_8,c955_8,aT,aU,lJ,bW,bX,bY,bZ,b0,b1,b2,b3,b4,b5,cA,cB,cC,cD,cE,cF,cG,cH,cI,cJ,cK,cL,cM,cN⟩:=at_T48 mU.out a1 eJ eK;cases lJ;replace bW:=ZC HB.out bW;replace bX:=ZC HB.out bX;replace bY:=ZC HB.out bY;replace bZ:=ZC HB.out bZ;replace b0:=ZC HB.out b0;replace b1:=ZC HB.out b1;replace b2:=ZC HB.out b2;replace b3:=ZC HB.out b3;replace b4:=ZC HB.out b4;replace b5:=ZC HB.out b5;have e2:=A_ cB;have e3:=A_ cA;clear cB cA;have e4:=A_ cD;have e5:=A_ cC;clear cD cC;have e6:=A_ cF;have e7:=A_ cE;clear cF cE;have e8:=A_ cH;have e9:=A_ cG;clear cH cG;have fA:=A_ cJ;have fB:=A_ cI;clear cJ cI;have fC:=A_ cL;have fD:=A_ cK;clear cL cK;have fE:=A_ cN;have fF:=A_ cM;clear cN cM;replace eJ:=eq_true eJ;replace eK:=eq_true eK) | ((with_reducible refine gate_dst (N:=11) rfl ?_);(try (refine gate_guard (by rfl) ?_;dsimp only));refine be (cs:=#[.int .i64 0,.slice none 0 0,.slice none 0 0,.int .i64 0,.int .i64 0,.slice none 0 0,.slice none 0 0,.slice none 0 0,.slice none 0 0,.slice none 0 0]) (t:=48) ?_;intro aF hg HQ hbox hb;have aA:=A_ hbox;have gQ:=A_ (gl hg (bz (Z3 GE954.out)));have GE956:=gQ;replace HB:=A_ (bst (Z3 GE954.out) hb);have aD:=A_ ((by rw [hg];exact nl (blk_lt (Z1 aB.out)) : aJ ≠ aF));have aG:=A_ ((by rw [hg];exact Nat.ne_of_gt (blk_lt (Z1 aB.out)) : aF ≠ aJ));replace aB:=A_ (bb (Z1 aB.out) hb);clear hb hbox hg;have FH:=aG.out;have FI:=aD.out;obtain ⟨iT,iU,iV,iW,iX,iY,iZ,i1,i2,i3,i4,i5,i6,i7,i8,i9,jA,jB,jC,jD⟩:=C10 aA.out))
     (try simp only [Act.put,List.setIfInBounds_toArray,List.set_cons_zero,List.set_cons_succ])
     rename_i Q0_ K0_ a0_ K1_ a1_
     go_cut [52] (fun G1 wc => ∃ (kq : Nat) (d6 : Bool),G1 = .bool d6 ∧ Aside0 (impl_tmplOk.j0 kq l0 a1 a3 a4 d6 aI aO aL aX aS l2_5 aK ((rd_T48 l0 a1).f0) ((rd_T48 l0 a1).f1) ((rd_T48 l0 a1).f2) ((rd_T48 l0 a1).f3.f0) ((rd_T48 l0 a1).f3.f1) ((rd_T48 l0 a1).f3.f2) ((rd_T48 l0 a1).f3.f3) ((rd_T48 l0 a1).f3.f4) ((rd_T48 l0 a1).f3.f5) ((rd_T48 l0 a1).f3.f6) = some r) ∧ Aside0 (kq ≤ k) ∧ Aside0 (wc.heap[aJ]? = some (.cells #[.int .i64 aI,.int .i64 aO,(.slice a9 aL.length bA),(.slice bB aX.length bC),(.slice bD aS.length bE),(.slice b6 l2_5.length bF),(.slice bK aK.length bG)] 46 (0,0))) ∧ Aside0 (wc.heap[aF]? = some (.cells #[.int .i64 ((rd_T48 l0 a1).f0),(.slice A955_1 ((rd_T48 l0 a1).f1).length c955_1),(.slice A955_2 ((rd_T48 l0 a1).f2).length c955_2),.int .i64 ((rd_T48 l0 a1).f3.f0),.int .i64 ((rd_T48 l0 a1).f3.f1),(.slice A955_5 ((rd_T48 l0 a1).f3.f2).length c955_5),(.slice A955_6 ((rd_T48 l0 a1).f3.f3).length c955_6),(.slice A955_7 ((rd_T48 l0 a1).f3.f4).length c955_7),(.slice A955_8 ((rd_T48 l0 a1).f3.f5).length c955_8),(.slice aT ((rd_T48 l0 a1).f3.f6).length aU)] 48 (0,0))) ∧ Aside0 (Below w.heap.size w wc))
     case first =>
      have H:=lK.out;clear lK
      by_cases lL : aI = 1
      ·rw [if_pos lL] at H
       have eL:=e_t lL;have mY:=n_f lL;clear lL;(first | rw [eL] | (simp only [i64_w,i32_w];rw [eL]) | skip)
       by_cases lM : aI = 3
       ·rw [if_pos lM] at H
        have mZ:=e_t lM;have m0:=n_f lM;clear lM;have H':=A_ H;clear H;have FJ:=aD.out;have FL:=aG.out;obtain ⟨wJ,wK,wL,wM,wN,wO,wP,wQ,wR,wS,wT,wU,wV,wW⟩:=C7 aB.out
        go_wp2
        go_meet
        case rel => exact ⟨_,(false),Z22,H',⟨Z47⟩,⟨Z15 aD.out aB.out⟩,⟨Z6 aA.out⟩,⟨Z8 GE954.out GE956.out⟩⟩
       ·rw [if_neg lM] at H
        have mZ:=e_f lM;have m0:=n_t lM;have H':=A_ H;clear H;have FM:=aD.out;have FN:=aG.out;obtain ⟨wX,wY,wZ,w3,w4,w5,w6,w7,w8,xA,xB,xC,xD,xE⟩:=C7 aB.out
        go_wp2
        go_meet
        case rel => exact ⟨_,(decide ((aS.length : Int) > 0)),Z22,H',⟨Z47⟩,⟨Z15 aD.out aB.out⟩,⟨Z6 aA.out⟩,⟨Z8 GE954.out GE956.out⟩⟩
      ·rw [if_neg lL] at H
       have eL:=e_f lL;have mY:=n_t lL;(first | rw [eL] | (simp only [i64_w,i32_w];rw [eL]) | skip)
       by_cases mM : (aL.length : Int) > 0
       ·rw [if_pos mM] at H
        have m1 : decide (0 < (aL.length : Int)) = true:=dt mM;have m2 : decide (0 < aL.length) = true:=dt (by omega);clear mM;have H':=A_ H;clear H;have FO:=aD.out;have FP:=aG.out;obtain ⟨xF,xG,xH,xI,xJ,xK,xL,xM,xN,xO,xP,xQ,xR,xS⟩:=C7 aB.out
        go_wp2
        go_meet
        case rel => exact ⟨_,(true),Z22,H',⟨Z47⟩,⟨Z15 aD.out aB.out⟩,⟨Z6 aA.out⟩,⟨Z8 GE954.out GE956.out⟩⟩
       ·rw [if_neg mM] at H
        have m1 : decide (0 < (aL.length : Int)) = false:=df mM;have m2 : decide (0 < aL.length) = false:=df (by omega);clear mM
        by_cases mN : (l2_5.length : Int) > 0
        ·rw [if_pos mN] at H
         have m3 : decide (0 < (l2_5.length : Int)) = true:=dt mN;have m4 : decide (0 < l2_5.length) = true:=dt (by omega);clear mN;have H':=A_ H;clear H;have FQ:=aD.out;have FR:=aG.out;obtain ⟨xT,xU,xV,xW,xX,xY,xZ,x0,x1,x2,x3,x4,x5,x6⟩:=C7 aB.out
         go_wp2
         go_meet
         case rel => exact ⟨_,(true),Z22,H',⟨Z47⟩,⟨Z15 aD.out aB.out⟩,⟨Z6 aA.out⟩,⟨Z8 GE954.out GE956.out⟩⟩
        ·rw [if_neg mN] at H
         have m3 : decide (0 < (l2_5.length : Int)) = false:=df mN;have m4 : decide (0 < l2_5.length) = false:=df (by omega);clear mN
         by_cases lN : aI = 3
         ·rw [if_pos lN] at H
          have m5:=e_t lN;have m6:=n_f lN;clear lN;have H':=A_ H;clear H;have FS:=aD.out;have FT:=aG.out;obtain ⟨x7,x8,x9,yA,yB,yC,yD,yE,yF,yG,yI,yJ,yK,yL⟩:=C7 aB.out
          go_wp2
          go_meet
          case rel => exact ⟨_,(false),Z22,H',⟨Z47⟩,⟨Z15 aD.out aB.out⟩,⟨Z6 aA.out⟩,⟨Z8 GE954.out GE956.out⟩⟩
         ·rw [if_neg lN] at H
          have m5:=e_f lN;have m6:=n_t lN;have H':=A_ H;clear H;have FU:=aD.out;have FV:=aG.out;obtain ⟨yM,yN,yO,yP,yQ,yR,yS,yT,yU,yV,yW,yX,yY,yZ⟩:=C7 aB.out
          go_wp2
          go_meet
          case rel => exact ⟨_,(decide ((aS.length : Int) > 0)),Z22,H',⟨Z47⟩,⟨Z15 aD.out aB.out⟩,⟨Z6 aA.out⟩,⟨Z8 GE954.out GE956.out⟩⟩
     case rest =>
      clear lK CP CQ mX iT iU iV iW iX iY iZ i1 i2 i3 i4 i5 i6 i7 i8 i9 jA jB jC jD bW bX bY bZ b0 b1 b2 b3 b4 b5 eJ eK;obtain ⟨kq,d6,rfl,HA,a5,aB,aA,HB⟩:=hcut
      cases kq with
      | zero => exact absurd HA.out (by simp [impl_tmplOk.j0])
      | succ CR =>
       have H:=HA.out;clear HA;simp only [impl_tmplOk.j0] at H
       by_cases y0 : d6 = true
       ·subst y0
        rw [if_pos rfl] at H;obtain rfl:=Option.some.inj H
        go_wp2
        go_ret
        exact ⟨Z12,Z8 GE954.out GE956.out⟩
       ·replace y0:=Bool.eq_false_iff.mpr y0
        subst y0;rw [if_neg (show ¬ (false = true) by decide)] at H;have lO:=A_ H;clear H
        go_upto_region 6 with (fail)
        go_cut [70] (fun G2 wc => ∃ (kq : Nat) (d7 : Bool),G2 = .bool d7 ∧ Aside0 (impl_tmplOk.j1 kq l0 a1 a3 a4 d7 aI aO aL aX aS l2_5 aK ((rd_T48 l0 a1).f0) ((rd_T48 l0 a1).f1) ((rd_T48 l0 a1).f2) ((rd_T48 l0 a1).f3.f0) ((rd_T48 l0 a1).f3.f1) ((rd_T48 l0 a1).f3.f2) ((rd_T48 l0 a1).f3.f3) ((rd_T48 l0 a1).f3.f4) ((rd_T48 l0 a1).f3.f5) ((rd_T48 l0 a1).f3.f6) = some r) ∧ Aside0 (kq ≤ CR) ∧ Aside0 (wc.heap[aJ]? = some (.cells #[.int .i64 aI,.int .i64 aO,(.slice a9 aL.length bA),(.slice bB aX.length bC),(.slice bD aS.length bE),(.slice b6 l2_5.length bF),(.slice bK aK.length bG)] 46 (0,0))) ∧ Aside0 (wc.heap[aF]? = some (.cells #[.int .i64 ((rd_T48 l0 a1).f0),(.slice A955_1 ((rd_T48 l0 a1).f1).length c955_1),(.slice A955_2 ((rd_T48 l0 a1).f2).length c955_2),.int .i64 ((rd_T48 l0 a1).f3.f0),.int .i64 ((rd_T48 l0 a1).f3.f1),(.slice A955_5 ((rd_T48 l0 a1).f3.f2).length c955_5),(.slice A955_6 ((rd_T48 l0 a1).f3.f3).length c955_6),(.slice A955_7 ((rd_T48 l0 a1).f3.f4).length c955_7),(.slice A955_8 ((rd_T48 l0 a1).f3.f5).length c955_8),(.slice aT ((rd_T48 l0 a1).f3.f6).length aU)] 48 (0,0))) ∧ Aside0 (Below w.heap.size w wc))
        case first =>
         have H:=lO.out;clear lO
         by_cases lP : aI = 0
         ·rw [if_pos lP] at H
          have eM:=e_t lP;have m7:=n_f lP;clear lP;(first | rw [eM] | (simp only [i64_w,i32_w];rw [eM]) | skip);have H':=A_ H;clear H;have FW:=aD.out;have FX:=aG.out;obtain ⟨y1,y2,y3,y4,y5,y6,y7,y8,y9,zA,zB,zC,zD,zE⟩:=C7 aB.out
          go_wp2
          go_meet
          case rel => exact ⟨_,((aO != 0)),Z22,H',⟨by have:=a5.out;first | omega | exact Nat.le_refl _⟩,⟨Z1 aB.out⟩,⟨Z1 aA.out⟩,⟨Z8 GE954.out GE956.out⟩⟩
         ·rw [if_neg lP] at H
          have eM:=e_f lP;have m7:=n_t lP;(first | rw [eM] | (simp only [i64_w,i32_w];rw [eM]) | skip)
          by_cases lQ : aI = 2
          ·rw [if_pos lQ] at H
           have m8:=e_t lQ;have m9:=n_f lQ;clear lQ;have H':=A_ H;clear H;have FY:=aD.out;have FZ:=aG.out;obtain ⟨zF,zG,zH,zI,zJ,zK,zL,zM,zN,zO,zP,zQ,zR,zS⟩:=C7 aB.out
           go_wp2
           go_meet
           case rel => exact ⟨_,((aO != 0)),Z22,H',⟨by have:=a5.out;first | omega | exact Nat.le_refl _⟩,⟨Z1 aB.out⟩,⟨Z1 aA.out⟩,⟨Z8 GE954.out GE956.out⟩⟩
          ·rw [if_neg lQ] at H
           have m8:=e_f lQ;have m9:=n_t lQ
           by_cases lR : aI = 3
           ·rw [if_pos lR] at H
            have nA:=e_t lR;have nB:=n_f lR;clear lR;have H':=A_ H;clear H;have F0:=aD.out;have F1:=aG.out;obtain ⟨zT,zU,zV,zW,zX,zY,zZ,z1,z2,z3,z4,z5,z6,z7⟩:=C7 aB.out
            go_wp2
            go_meet
            case rel => exact ⟨_,((aO != 0)),Z22,H',⟨by have:=a5.out;first | omega | exact Nat.le_refl _⟩,⟨Z1 aB.out⟩,⟨Z1 aA.out⟩,⟨Z8 GE954.out GE956.out⟩⟩
           ·rw [if_neg lR] at H
            have nA:=e_f lR;have nB:=n_t lR;have H':=A_ H;clear H;have F2:=aD.out;have F3:=aG.out;obtain ⟨z8,z9,AA,AB,AC,AD,AE,AF,AG,AH,AI,AJ,AK,AL⟩:=C7 aB.out
            go_wp2
            go_meet
            case rel => exact ⟨_,(false),Z22,H',⟨by have:=a5.out;first | omega | exact Nat.le_refl _⟩,⟨Z1 aB.out⟩,⟨Z1 aA.out⟩,⟨Z8 GE954.out GE956.out⟩⟩
        case rest =>
         clear lO;obtain ⟨kq,d7,rfl,HA,bH,aB,aA,HB⟩:=hcut
         cases kq with
         | zero => exact absurd HA.out (by simp [impl_tmplOk.j1])
         | succ gR =>
          have H:=HA.out;clear HA;simp only [impl_tmplOk.j1] at H
          by_cases AM : d7 = true
          ·subst AM
           rw [if_pos rfl] at H;obtain rfl:=Option.some.inj H
           go_wp2
           go_ret
           exact ⟨Z12,Z8 GE954.out GE956.out⟩
          ·replace AM:=Bool.eq_false_iff.mpr AM
           subst AM;rw [if_neg (show ¬ (false = true) by decide)] at H;have lS:=A_ H;clear H;have F4:=aD.out;have F5:=aG.out;obtain ⟨jE,jF,jG,jH,jI,jJ,jK,jL,jM,jN,jO,jP,jQ,jR⟩:=C7 aB.out
           go_upto_block 0 with (fail)
           rename_i p_ q_ r_ K2_ a2_
           clear p_ q_ r_
           revert c0 l0 a1 aI aO a9 bA aL bB bC aX bD bE aS b6 bF l2_5 bK bG aK a3 a4 r w k ih GY GZ G0 FB d2 FC mV mW k0 k1 b9 FD k2 FE Q0_ aJ HP gP GE954 e1 A955_1 c955_1 A955_2 c955_2 A955_5 c955_5 A955_6 c955_6 A955_7 c955_7 A955_8 c955_8 aT aU mU e2 e3 e4 e5 e6 e7 e8 e9 fA fB fC fD fE fF aF HQ gQ GE956 aD aG FH FI u70 CR a5 wc u21 u22 u23 u24 u25 u26 u27 u28 u29 u30 u31 u32 u33 u34 u35 u36 u37 u38 u39 u40 u41 u42 u43 u44 u45 u46 u47 u48 u49 u50 u51 u52 u53 u54 u55 u56 u57 u58 u59 u60 u61 u62 u63 u64 u65 u66 u67 u68 u69 u71 u74 u76 u77 u78 u79 u80 u81 u82 u83 u84 u88 u89 u90 u91 u92 u93 u94 u95 u96 u97 u98 u99 u100 u101 u102 u103 u104 u105 u106 u107 u108 u109 u110 u114 u115 u116 u117 u118 u119 u120 u121 u122 u123 u124 u125 u126 u127 u128 u129 u130 u131 u132 u133 u134 u135 u136 u137 u138 u139 u140 u141 u142 u143 u144 u145 u146 u147 u148 u150 u152 u153 u154 u155 u156 u157 u158 u159 u160 u161 u162 u163 u164 u165 u166 u167 u168 u169 u171 u172 u173 u174 u175 u176 u177 u178 u179 u180 u181 u182 u183 u184 u185 u186 u188 u189 u190 u191 u192 u193 u194 u195 u196 u197 u198 u199 u200 u201 u202 u203 u204 u205 u206 u207 u208 u209 u210 u211 u212 u213 u214 u215 u216 u217 u218 u219 u220 u224 u225 u226 u227 u228 u229 u230 u231 u232 u233 u234 u235 aB aA HB gR bH lS F4 F5 jE jF jG jH jI jJ jK jL jM jN jO jP jQ jR K2_ a2_
           exact mN_
   ·rw [if_neg c7] at H
    exact absurd H (by simp)
  ·rw [if_neg c6] at H
   exact absurd H (by simp)
end Go.Proofs.Ytmgdjmeoljepgaa.PFnProgBelow