/- Walks (lines of the print; no condition). -/
import Derived.Test.YtmgdjmeoljepgaaZFnProgBelowQFnProgBelowx22
import Derived.Test.YtmgdjmeoljepgaaZFnProgBelowQFnProgBelowx23
namespace Go.Proofs.Ytmgdjmeoljepgaa.PFnProgBelow
open Go.RowKit Go.Proofs.YtmgdjmeoljepgaaW.PrintWords Go.Proofs.YtmgdjmeoljepgaaW.PrintLast Go.Proofs.YtmgdjmeoljepgaaW.PrintMore
attribute [local go_sem] max2_int min2_int max_two min_two max_three min_three max_four min_four
set_option linter.unusedVariables false
set_option linter.unusedSimpArgs false
set_option maxHeartbeats 8000000
set_option maxRecDepth 100000
mutual
def impl_ProgBelow.j0 : Nat → List (S48) → Int → Bool → Option (List Int)
 | 0,_,_,_ => none
 | k + 1,x0,x1,aF => if aF = true then (some ([] : List Int)) else (if 0 ≤ (x0.length : Int) then (if ((x0.length : Int) : Int).toNat ≤ 281474976710656 then ((some (List.replicate ((x0.length : Int) : Int).toNat false : List Bool)).bind fun aB => (if 0 ≤ x1 then (if x1 < (x0.length : Int) then ((impl_below.f k x0 ((rd_T48 x0 x1).f3.f0) ((rd_T48 x0 x1).f3.f1) ((rd_T48 x0 x1).f3.f2) ((rd_T48 x0 x1).f3.f3) ((rd_T48 x0 x1).f3.f4) ((rd_T48 x0 x1).f3.f5) ((rd_T48 x0 x1).f3.f6) aB).bind fun aC => (impl_ProgBelow.l0 k ([] : List Int) aC (aB.length : Int) 0)) else (none)) else (none))) else (none)) else (none))
def impl_ProgBelow.l0 : Nat → List Int → List Bool → Int → Int → Option (List Int)
 | 0,_,_,_,_ => none
 | k + 1,x6,aD,aE,aA => if aA < aE then (if 0 ≤ aA then (if aA < (aD.length : Int) then (if rdOf false aD aA = true then (if x6.length < 17592186044416 then (impl_ProgBelow.l0 k (x6 ++ [aA]) aD aE (wrap64 (aA + 1))) else (none)) else (impl_ProgBelow.l0 k x6 aD aE (wrap64 (aA + 1)))) else (none)) else (none)) else (some x6)
end
def impl_ProgBelow.f (k : Nat) (l0 : List (S48)) (a1 : Int) : Option (List Int):=(impl_ProgOk.f k l0).bind fun aA => (if aA = true then ((impl_within.f a1 0 (wrap64 ((l0.length : Int) - 1))).bind fun aB => (impl_ProgBelow.j0 k l0 a1 (!aB))) else (impl_ProgBelow.j0 k l0 a1 true))
theorem impl_ProgBelow.calls (k : Nat) (A0 : Option Addr) (c0 : Nat) (l0 : List (S48)) (a1 : Int) (r : List Int) (w : World) (dR : Kd.C k48 w A0 l0.length l0) (hc0 : l0.length ≤ c0) (h : impl_ProgBelow.f k l0 a1 = some r) :
  Calls Try.prog 5 #[.slice A0 l0.length c0,.int .i64 a1] w fun e w' => ∃ dS : Value,e = .returned (dS) ∧ Kd.R (Kd.int .i64) 3 w' w.heap.size (fun _ => True) dS r ∧ Below w.heap.size w w':=by
 have d0:=Try.underlying46;have dA:=A_ dR;have dM:=A_ hc0;clear dR hc0;have HB:=A_ (Below.refl w.heap.size w);have H:=h;unfold impl_ProgBelow.f at H;clear h;have dN:=A_ H;clear H
 go_enter Try.func5,Try.ntmps5
 go_upto_region 1 with (fail)
 go_cut [19] (fun d1 wc => ∃ (kq : Nat) (bG : Bool),d1 = .bool bG ∧ Aside0 (impl_ProgBelow.j0 kq l0 a1 bG = some r) ∧ Aside0 (kq ≤ k) ∧ Aside0 (Below w.heap.size w wc))
 case first =>
  have H:=dN.out;clear dN;replace H:=bS H;obtain ⟨dO,dT,H⟩:=H
  try dsimp only at H
  have A4:=A_ dT;clear dT
  by_cases c5 : dO = true
  ·subst c5
   rw [if_pos rfl] at H;replace H:=bS H;obtain ⟨cJ,dU,H⟩:=H
   try dsimp only at H
   have A6:=A_ dU;clear dU;have H':=A_ H;clear H
   go_wp2_with (first | ((with_reducible refine gate_callee (f:=13) rfl ?_);refine gL 10 Try.func13 #[.slice A0 l0.length c0] ?_;(with_reducible refine (impl_ProgOk.calls k _ _ l0 true _ ?s1 dM.out A4.out).mono ?_);(case s1 => exact Z9 dA.out);rintro e w7 ⟨rfl,hb⟩;refine ⟨_,rfl,?_⟩;replace HB:=A_ (bst Z2 hb);(try clear hb)) | (go_at_call 14;(with_reducible refine (impl_within.calls a1 0 (wrap64 ((l0.length : Int) - 1)) cJ _ A6.out).mono ?_);rintro e w' ⟨rfl,⟨nd,rfl⟩⟩))
   go_meet
   case rel => exact ⟨_,(!cJ),Z22,H',⟨Z47⟩,⟨Z2⟩⟩
  ·replace c5:=Bool.eq_false_iff.mpr c5
   subst c5;rw [if_neg (show ¬ (false = true) by decide)] at H;have H':=A_ H;clear H
   go_wp2_with (first | ((with_reducible refine gate_callee (f:=13) rfl ?_);refine gL 10 Try.func13 #[.slice A0 l0.length c0] ?_;(with_reducible refine (impl_ProgOk.calls k _ _ l0 false _ ?s1 dM.out A4.out).mono ?_);(case s1 => exact Z9 dA.out);rintro e w8 ⟨rfl,hb⟩;refine ⟨_,rfl,?_⟩;replace HB:=A_ (bst Z2 hb);(try clear hb)))
   go_meet
   case rel => exact ⟨_,(true),Z22,H',⟨Z47⟩,⟨Z2⟩⟩
 case rest =>
  clear dN;obtain ⟨kq,bG,rfl,HA,dB,HB⟩:=hcut
  cases kq with
  | zero => exact absurd HA.out (by simp [impl_ProgBelow.j0])
  | succ dP =>
   have H:=HA.out;clear HA;simp only [impl_ProgBelow.j0] at H
   by_cases c9 : bG = true
   ·subst c9
    rw [if_pos rfl] at H;obtain rfl:=Option.some.inj H
    go_wp2
    go_ret
    exact ⟨_,Z12,Z29,Z2⟩
   ·replace c9:=Bool.eq_false_iff.mpr c9
    subst c9;rw [if_neg (show ¬ (false = true) by decide)] at H
    by_cases c10 : 0 ≤ (l0.length : Int)
    ·rw [if_pos c10] at H
     have cK:=eq_true c10;have cL:=dt c10;clear c10
     by_cases cM : ((l0.length : Int) : Int).toNat ≤ 281474976710656
     ·rw [if_pos cM] at H
      have cN:=eq_true cM;have cO:=dt cM;clear cM;obtain ⟨aZ,bH⟩ : ∃ y_ : List Bool,y_ = (List.replicate ((l0.length : Int) : Int).toNat false):=⟨_,rfl⟩
      first | rw [← bH,Option.bind_some] at H | rw [← bH] at H
      have cB:=A_ bH;clear bH
      by_cases dC : 0 ≤ a1
      ·rw [if_pos dC] at H
       have cP:=dt dC;clear dC
       by_cases dD : a1 < (l0.length : Int)
       ·rw [if_pos dD] at H
        have cQ:=dt dD;clear dD;replace H:=bS H;obtain ⟨aD,cR,H⟩:=H
        try dsimp only at H
        have d2:=A_ cR;clear cR;have H':=A_ H;clear H
        go_wp2_with (first | ((with_reducible refine gate_dst (N:=22) rfl ?_);(try (refine gate_guard (by rfl) ?_;dsimp only));refine Kd.R_make Kd.bool _ 4 rfl (N:=22) rfl 37 _ _ rfl (l0.length : Int) rfl rfl Try.underlying37 (.bool false) 1 info4 rfl (by decide) (by omega) false (ok:=fun _ => True) (okp:=fun _ => True) rfl (fun _ hk => hk) trivial (odt) (Nat.le_trans (Nat.mul_le_mul_right _ (odt : (l0.length : Int).toNat ≤ 281474976710656)) (by omega)) (Below.refl _ _) (Nat.le_refl _) ?_;intro dV d4 bL hb hg_ hnew_;clear hg_ hnew_;(first | rw [← cB.out] at bL | (simp only [Int.reduceToNat] at bL;rw [← cB.out] at bL));have aG:=A_ (Kd.R_lower bL (bz Z2));replace HB:=A_ (bst Z2 hb);clear hb bL;have bI : 0 ≤ (a1 : Int):=odt;have bJ : a1 < (l0.length : Int):=odt;obtain ⟨cE,dE,dF,dG,dH,bZ,b0,b1,b2,b3,b4,b5,b6,b7,b8,cS,aH,aI,aJ,aK,aM,aN,aQ,aR,aT,aU,a2,a3,a4,a5,a6,a7,a8,a9,bA,bB,bC,bD,bE,bF⟩:=at_T48 dA.out a1 bI bJ;cases cS;replace aH:=ZC HB.out aH;replace aI:=ZC HB.out aI;replace aJ:=ZC HB.out aJ;replace aK:=ZC HB.out aK;replace aM:=ZC HB.out aM;replace aN:=ZC HB.out aN;replace aQ:=ZC HB.out aQ;replace aR:=ZC HB.out aR;replace aT:=ZC HB.out aT;replace aU:=ZC HB.out aU;have cT:=A_ a3;have cU:=A_ a2;clear a3 a2;have cV:=A_ a5;have cW:=A_ a4;clear a5 a4;have bM:=A_ a7;have bN:=A_ a6;clear a7 a6;have bO:=A_ a9;have bP:=A_ a8;clear a9 a8;have bQ:=A_ bB;have bR:=A_ bA;clear bB bA;have bT:=A_ bD;have bU:=A_ bC;clear bD bC;have bV:=A_ bF;have bW:=A_ bE;clear bF bE;replace bI:=eq_true bI;replace bJ:=eq_true bJ;obtain ⟨b9,cA,dQ⟩:=Kd.R_slice aG.out;subst dQ) | ((with_reducible refine gate_callee (f:=15) rfl ?_);refine gL 30 Try.func15 #[.slice (some cE) l0.length c0,.agg #[.int .i64 ((rd_T48 l0 a1).f3.f0),.int .i64 ((rd_T48 l0 a1).f3.f1),.slice bZ ((rd_T48 l0 a1).f3.f2).length b0,.slice b1 ((rd_T48 l0 a1).f3.f3).length b2,.slice b3 ((rd_T48 l0 a1).f3.f4).length b4,.slice b5 ((rd_T48 l0 a1).f3.f5).length b6,.slice b7 ((rd_T48 l0 a1).f3.f6).length b8],.slice b9 aZ.length cA] ?_;(with_reducible refine (impl_below.calls dP _ _ l0 ((rd_T48 l0 a1).f3.f0) ((rd_T48 l0 a1).f3.f1) _ _ ((rd_T48 l0 a1).f3.f2) _ _ ((rd_T48 l0 a1).f3.f3) _ _ ((rd_T48 l0 a1).f3.f4) _ _ ((rd_T48 l0 a1).f3.f5) _ _ ((rd_T48 l0 a1).f3.f6) (fun k_ => some k_ = (.slice b9 aZ.length cA : Value).ownBlock) (.slice b9 aZ.length cA) aZ aD w _ ?s1 dA.out dM.out bM.out bN.out bO.out bP.out bQ.out bR.out bT.out bU.out bV.out bW.out ?s14 d2.out).mono ?_);(case s1 => exact Z2);(case s14 => exact Kd.R_tight rfl aG.out);rintro e d5 ⟨rfl,dW,hb,hkp⟩;refine ⟨_,rfl,?_⟩;replace aG:=A_ (Kd.R_reok rfl dW (fun k_ e_ => aG.out.1 k_ e_));replace HB:=A_ hb;(try clear hb);(try clear hkp);(try clear dW)))
        go_loopg [6,33] dP (fun kq v6 d3 w' => ∃ (aY : List Int) (aA : Int),d3 = .int .i64 aA ∧ Aside0 (impl_ProgBelow.l0 kq aY aD (aZ.length : Int) aA = some r) ∧ Aside0 (kq ≤ dP) ∧ Aside0 (Kd.R (Kd.int .i64) 3 w' w.heap.size (fun _ => True) v6 aY) ∧ Aside0 (Kd.R Kd.bool 4 w' w.heap.size (fun _ => True) (.slice b9 aZ.length cA) aD) ∧ Aside0 (Below w.heap.size w w'))
        case atStart => exact ⟨(([] : List Int)),(0),Z22,H',⟨Nat.le_refl _⟩,⟨Z29⟩,⟨Z17 aG.out⟩,⟨Z2⟩⟩
        case round =>
         clear H' cK cL cN cO cP cQ aH aI aJ aK aM aN aQ aR aT aU bI bJ;obtain ⟨aY,aA,rfl,HA,HK2,bK,aE,HB⟩:=hrel;have aC:=(Kd.R_reads' aE.out).1;rw [aC] at aE;(try simp only [aC]);(try simp only [aC] at bK)
         cases gk with
         | zero => exact absurd HA.out (by simp [impl_ProgBelow.l0])
         | succ k2 =>
          have H:=HA.out;clear HA;simp only [impl_ProgBelow.l0] at H
          by_cases cI : aA < (aZ.length : Int)
          ·rw [if_pos cI] at H
           have cC:=dt cI;clear cI
           by_cases dI : 0 ≤ aA
           ·rw [if_pos dI] at H
            have dX:=dt dI;clear dI
            by_cases dJ : aA < (aD.length : Int)
            ·rw [if_pos dJ] at H
             have dY:=dt dJ;clear dJ;obtain ⟨cX,bX⟩ : ∃ b_ : Bool,b_ = (rdOf false aD aA):=⟨_,rfl⟩
             replace H : (if cX = true then (if aY.length < 17592186044416 then (impl_ProgBelow.l0 k2 (aY ++ [aA]) aD (aZ.length : Int) (wrap64 (aA + 1))) else (none)) else (impl_ProgBelow.l0 k2 aY aD (aZ.length : Int) (wrap64 (aA + 1)))) = some r:=by rw [← bX] at H;exact H
             have cD:=A_ bX;clear bX
             by_cases dK : cX = true
             ·subst dK
              rw [if_pos rfl] at H
              by_cases dL : aY.length < 17592186044416
              ·rw [if_pos dL] at H
               have cY:=A_ dL;clear dL;obtain ⟨cZ,a0⟩ : ∃ y_ : List Int,y_ = (aY ++ [aA]):=⟨_,rfl⟩
               first | rw [← a0,Option.bind_some] at H | rw [← a0] at H
               have cF:=A_ a0;clear a0;have H':=A_ H;clear H;have aV : 0 ≤ (aA : Int):=odt;have aW : aA < (aD.length : Int):=odt;obtain ⟨cG,bY,aX⟩:=Kd.at_bool (Kd.R_reads' aE.out).2.2 aA aV aW;(try rw [← cD.out] at aX);cases bY;replace aV:=eq_true aV;replace aW:=eq_true aW
               go_wp2_with (first | ((with_reducible refine gate_builtin (b:=.append) (xs:=#[.tmp 39,.tmp 41]) rfl ?_);(try (refine gate_guard (by rfl) ?_;dsimp only));at_builtin;refine Kd.R_append (Kd.int .i64) (w0:=w) w.heap.size rfl (.tmp 39) (.tmp 41) 26 3 (.int .i64 0) 8 rfl Try.underlying26 info3 rfl (by decide) (by omega) u6 aY aA [.int .i64 aA] (fun _ => True) (fun _ => False) rfl rfl ?aP (fun _ hk => hk.elim) ?aF ?aO ?aB ?aS ?aL ?_;(case aP => exact rfl);(case aB => exact Z2);(case aF => exact (fun _ _ => trivial));(case aO => exact (Z17 bK.out));(case aS => exact (bz Z2));(case aL => have:=cY.out;omega);intro dZ d6 ho hb hg hat;rw [← cF.out] at ho;replace aE:=A_ (Kd.R_over' (Z17 aE.out) (Kd.R_typed (Z17 bK.out)) (by decide) hg);replace HB:=A_ hb;have cH:=A_ ho;clear bK;clear ho hb hg hat))
               (try simp only [← aC])
               go_roundg k2
               case measure => have:=dB.out;have:=HK2.out;omega
               case rel => exact ⟨(cZ),(wrap64 (aA + 1)),Z22,H',⟨by have:=dB.out;have:=HK2.out;omega⟩,⟨by (try simp only [aC]);(with_reducible repeat (first | apply Kd.R_alloc | apply Kd.R_drewN | apply Kd.R_drew));exact cH.out⟩,⟨by (try simp only [aC]);(with_reducible repeat (first | apply Kd.R_alloc | apply Kd.R_drewN | apply Kd.R_drew));exact aE.out⟩,⟨Z2⟩⟩
              ·rw [if_neg dL] at H
               exact absurd H (by simp)
             ·replace dK:=Bool.eq_false_iff.mpr dK
              subst dK;rw [if_neg (show ¬ (false = true) by decide)] at H;have H':=A_ H;clear H;have aV : 0 ≤ (aA : Int):=odt;have aW : aA < (aD.length : Int):=odt;obtain ⟨cG,bY,aX⟩:=Kd.at_bool (Kd.R_reads' aE.out).2.2 aA aV aW;(try rw [← cD.out] at aX);cases bY;replace aV:=eq_true aV;replace aW:=eq_true aW
              go_wp2
              (try simp only [← aC])
              go_roundg k2
              case measure => have:=dB.out;have:=HK2.out;omega
              case rel => exact ⟨(aY),(wrap64 (aA + 1)),Z22,H',⟨by have:=dB.out;have:=HK2.out;omega⟩,⟨by (try simp only [aC]);(with_reducible repeat (first | apply Kd.R_alloc | apply Kd.R_drewN | apply Kd.R_drew));exact bK.out⟩,⟨by (try simp only [aC]);(with_reducible repeat (first | apply Kd.R_alloc | apply Kd.R_drewN | apply Kd.R_drew));exact aE.out⟩,⟨Z2⟩⟩
            ·rw [if_neg dJ] at H
             exact absurd H (by simp)
           ·rw [if_neg dI] at H
            exact absurd H (by simp)
          ·rw [if_neg cI] at H
           have cC:=df cI;(try rw [aC] at cC);clear cI;obtain rfl:=Option.some.inj H
           go_wp2
           go_ret
           exact ⟨_,Z12,Z17 bK.out,Z2⟩
       ·rw [if_neg dD] at H
        exact absurd H (by simp)
      ·rw [if_neg dC] at H
       exact absurd H (by simp)
     ·rw [if_neg cM] at H
      exact absurd H (by simp)
    ·rw [if_neg c10] at H
     exact absurd H (by simp)
mutual
def spec_calls.j0 : Nat → List Bool → Int → Int → List Int → List (List (S70)) → List (S70) → List (S76) → List (S46) → Option (List Bool)
 | 0,_,_,_,_,_,_,_,_ => none
 | k + 1,x1,aB,aC,aD,aE,aF,aG,aA => spec_calls.l0 k x1 0 aB aC aD aE aF aG aA
def spec_calls.l0 : Nat → List Bool → Int → Int → Int → List Int → List (List (S70)) → List (S70) → List (S76) → List (S46) → Option (List Bool)
 | 0,_,_,_,_,_,_,_,_,_ => none
 | k + 1,x1,x4,aB,aC,aD,aE,aF,aG,aA => if x4 < (aA.length : Int) then (if 0 ≤ x4 then ((spec_calls.f k ((rd_T46 aA x4).f0) ((rd_T46 aA x4).f1) ((rd_T46 aA x4).f2) ((rd_T46 aA x4).f3) ((rd_T46 aA x4).f4) ((rd_T46 aA x4).f5) ((rd_T46 aA x4).f6) x1).bind fun aJ => (spec_calls.l0 k aJ (wrap64 (x4 + 1)) aB aC aD aE aF aG aA)) else (none)) else (some x1)
def spec_calls.f : Nat → Int → Int → List Int → List (List (S70)) → List (S70) → List (S76) → List (S46) → List Bool → Option (List Bool)
 | 0,_,_,_,_,_,_,_,_ => none
 | k + 1,aI,aH,aK,aL,aM,aN,aO,l1 => if aI = 4 then (if 0 ≤ aH then (if aH < (l1.length : Int) then (spec_calls.j0 k (l1.set (aH : Int).toNat true) aI aH aK aL aM aN aO) else (none)) else (none)) else (spec_calls.j0 k l1 aI aH aK aL aM aN aO)
end
theorem spec_calls.calls (k : Nat) : ∀ (aG : Int) (aD : Int) (a9 : Option Addr) (bA : Nat) (aJ : List Int) (bB : Option Addr) (bC : Nat) (aK : List (List (S70))) (bD : Option Addr) (bE : Nat) (aL : List (S70)) (bF : Option Addr) (bG : Nat) (aM : List (S76)) (bH : Option Addr) (bI : Nat) (aB : List (S46)) (a7 : Nat → Prop) (aE : Value) (l1 : List Bool) (r : List Bool) (w0 w : World) (hB : Below w0.heap.size w0 w) (bJ : Kd.C (Kd.int .i64) w0 a9 aJ.length aJ) (bK : aJ.length ≤ bA) (bL : Kd.C (Kd.slice 70 k70) w0 bB aK.length aK) (bM : aK.length ≤ bC) (bN : Kd.C k70 w0 bD aL.length aL) (bO : aL.length ≤ bE) (bP : Kd.C k76 w0 bF aM.length aM) (bQ : aM.length ≤ bG) (bR : Kd.C k46 w0 bH aB.length aB) (bT : aB.length ≤ bI) (ho1 : Kd.R Kd.bool 4 w w0.heap.size a7 aE l1) (h : spec_calls.f k aG aD aJ aK aL aM aB l1 = some r),
  Calls Try.prog 18 #[.agg #[.int .i64 aG,.int .i64 aD,.slice a9 aJ.length bA,.slice bB aK.length bC,.slice bD aL.length bE,.slice bF aM.length bG,.slice bH aB.length bI],aE] w fun e w' => e = .returned (.tuple #[]) ∧ Kd.R Kd.bool 4 w' w0.heap.size (fun k_ => (a7 k_ ∨ w.heap.size ≤ k_)) aE r ∧ Below w0.heap.size w0 w' ∧ Kept w w' (fun k_ => a7 k_):=by
 induction k using Nat.strongRecOn with
 | _ k ih =>
 intro aG aD a9 bA aJ bB bC aK bD bE aL bF bG aM bH bI aB a7 aE l1 r w0 w hB bJ bK bL bM bN bO bP bQ bR bT ho1 h
 cases k with
 | zero => exact absurd h (by simp [spec_calls.f])
 | succ k =>
 simp only [spec_calls.f] at h;have fD:=Try.underlying46;have eV:=A_ bJ;have eW:=A_ bK;clear bJ bK;have eX:=A_ bL;have eY:=A_ bM;clear bL bM;have eZ:=A_ bN;have e0:=A_ bO;clear bN bO;have e1:=A_ bP;have e2:=A_ bQ;clear bP bQ;have dD:=A_ bR;have e3:=A_ bT;clear bR bT;have bU:=A_ (show Kd.R Kd.bool 4 w w0.heap.size (fun k_ => (a7 k_ ∨ w.heap.size ≤ k_)) aE l1 from Rm ho1 (fun k_ hk => (.inl hk)));have HK:=A_ (Kept.refl w (fun k_ => a7 k_));have fK:=A_ hB.size;have HB:=A_ hB;clear hB;have H:=h;unfold spec_calls.f at H;clear h;have eP:=A_ H;clear H
 go_enter Try.func18,Try.ntmps18
 go_upto_if 7 with (first | ((with_reducible refine gate_dst (N:=2) rfl ?_);refine be (cs:=#[.int .i64 aG,.int .i64 aD,.slice a9 aJ.length bA,.slice bB aK.length bC,.slice bD aL.length bE,.slice bF aM.length bG,.slice bH aB.length bI]) (t:=46) ?_;intro a8 hg w4 hbox hb;replace bU:=A_ (Kd.R_below (Z17 bU.out) hb);have aA:=A_ hbox;have aF:=A_ ((by rw [hg];exact (by first | exact HK.out.1 | exact (show Kept w _ (fun k_ => a7 k_) from by repeat (first | (with_reducible first | exact HK.out | apply Kept.alloc | apply Kept.drewN | apply Kept.drew) | exact HK.out)).1) : w.heap.size ≤ a8));replace HK:=A_ (Kept.below (S:=(fun k_ => a7 k_)) (by repeat (first | (with_reducible first | exact HK.out | apply Kept.alloc | apply Kept.drewN | apply Kept.drew) | exact HK.out)) hb);have aH:=A_ (gl hg (bz Z2));replace HB:=A_ (bst Z2 hb);clear hb hbox hg;obtain ⟨cK,cL,cM,cN,cO,cP,cQ,cR,cS,cT,cU,cV,cW,cX⟩:=C7 aA.out))
 (try simp only [Act.put,List.setIfInBounds_toArray,List.set_cons_zero,List.set_cons_succ])
 go_cut [] (fun wc => ∃ (kq : Nat) (aI : List Bool),Aside0 (spec_calls.j0 kq aI aG aD aJ aK aL aM aB = some r) ∧ Aside0 (kq ≤ k) ∧ Aside0 (Kd.R Kd.bool 4 wc w0.heap.size (fun k_ => (a7 k_ ∨ w.heap.size ≤ k_)) aE aI) ∧ Aside0 (wc.heap[a8]? = some (.cells #[.int .i64 aG,.int .i64 aD,(.slice a9 aJ.length bA),(.slice bB aK.length bC),(.slice bD aL.length bE),(.slice bF aM.length bG),(.slice bH aB.length bI)] 46 (0,0))) ∧ Aside0 (Kept w wc (fun k_ => a7 k_)) ∧ Aside0 (Below w0.heap.size w0 wc))
 case first =>
  have H:=eP.out;clear eP
  by_cases c6 : aG = 4
  ·rw [if_pos c6] at H
   have bV:=e_t c6;have eQ:=n_f c6;clear c6;(first | rw [bV] | (simp only [i64_w,i32_w];rw [bV]) | skip)
   by_cases c7 : 0 ≤ aD
   ·rw [if_pos c7] at H
    have fE:=dt c7;clear c7
    by_cases c8 : aD < (l1.length : Int)
    ·rw [if_pos c8] at H
     have fF:=dt c8;clear c8;obtain ⟨cI,aO⟩ : ∃ y_ : List Bool,y_ = (l1.set (aD : Int).toNat true):=⟨_,rfl⟩
     first | rw [← aO,Option.bind_some] at H | rw [← aO] at H
     have cY:=A_ aO;clear aO;have H':=A_ H;clear H;obtain ⟨dI,dJ,dK,dL,dM,dN,dO,dP,dQ,dR,dS,dT,dU,dV⟩:=C7 aA.out;have p9 : 0 ≤ (aD : Int):=odt;have q9 : (aD : Int) < ((l1.length : Int) : Int):=odt;obtain ⟨dE,fG,e4,e5,fH,fL,e6⟩:=Kd.R_form bU.out (by omega);(first | cases e4 | (injection e4 with ea_ en_ ec_;(first | subst ea_ | (injection ea_ with ea_;subst ea_));subst ec_;clear en_));have fI:=A_ e5;have fM:=A_ e6;clear e5 fH e6;have e7:=A_ (show (a7 dE ∨ w.heap.size ≤ dE) from (bU.out.1 _ rfl));obtain ⟨e8,e9⟩:=Kd.R_celln false bU.out (aD : Int) p9 q9;replace p9:=eq_true p9;replace q9:=eq_true q9;have cZ:=Kd.R_putg bU.out (aD : Int) true
     go_wp2_with (first | ((with_reducible refine gate_store (t:=4) (p:=11) rfl ?_);refine store_event (t:=4) (p:=11) (v:=?vo_w12) (w1:=(w4.setCell ⟨dE,(aD : Int).toNat,none⟩ (.bool true))) ?hg ?ho ?hn ?hr ?_;(case ho => rfl);(case hg => rfl);(case hn => rfl);(case hr => exact Z51);intro eR hw;have hg : w4.grownBy eR (some dE):=(by rw [hw];exact cZ.2);have hp_ : Kd.R Kd.bool 4 eR w0.heap.size (fun k_ => (a7 k_ ∨ w.heap.size ≤ k_)) (.slice (some ⟨dE,0,none⟩) l1.length fG) cI:=(by rw [hw,cY.out];exact cZ.1);clear cZ;replace aA:=A_ (blk_grown (Z1 aA.out) hg (Kd.R_ne bU.out aA.out (by decide)));replace HB:=A_ ((by rw [hw];exact below_set (HB.out) fI.out : Below w0.heap.size w0 eR));replace HK:=A_ (Kept.of_grown (S:=(fun k_ => a7 k_)) hg (Z37 aF.out) (fun k_ e_ => (bU.out.1 k_ e_)));replace bU:=A_ hp_;clear hg hw hp_))
     go_meet
     case rel => exact ⟨_,(cI),H',⟨Z47⟩,⟨Z17 bU.out⟩,⟨Z1 aA.out⟩,⟨Z37 aF.out⟩,⟨Z3 aH.out⟩⟩
    ·rw [if_neg c8] at H
     exact absurd H (by simp)
   ·rw [if_neg c7] at H
    exact absurd H (by simp)
  ·rw [if_neg c6] at H
   have bV:=e_f c6;have eQ:=n_t c6;(first | rw [bV] | (simp only [i64_w,i32_w];rw [bV]) | skip);have H':=A_ H;clear H
   go_wp2
   go_meet
   case rel => exact ⟨_,(l1),H',⟨Z47⟩,⟨Z17 bU.out⟩,⟨Z1 aA.out⟩,⟨Z37 aF.out⟩,⟨Z3 aH.out⟩⟩
 case rest =>
  clear eP cK cL cM cN cO cP cQ cR cS cT cU cV cW cX;obtain ⟨kq,aI,HA,eS,aN,aA,HK,HB⟩:=hcut
  cases kq with
  | zero => exact absurd HA.out (by simp [spec_calls.j0])
  | succ fA =>
   have H:=HA.out;clear HA;simp only [spec_calls.j0] at H;have H':=A_ H;clear H
   go_wp2
   go_loopg [4] fA (fun kq v4 w' => ∃ (aI : List Bool) (aC : Int),v4 = .int .i64 aC ∧ Aside0 (spec_calls.l0 kq aI aC aG aD aJ aK aL aM aB = some r) ∧ Aside0 (kq ≤ fA) ∧ Aside0 (Kd.R Kd.bool 4 w' w0.heap.size (fun k_ => (a7 k_ ∨ w.heap.size ≤ k_)) aE aI) ∧ Aside0 (w'.heap[a8]? = some (.cells #[.int .i64 aG,.int .i64 aD,(.slice a9 aJ.length bA),(.slice bB aK.length bC),(.slice bD aL.length bE),(.slice bF aM.length bG),(.slice bH aB.length bI)] 46 (0,0))) ∧ Aside0 (Kept w w' (fun k_ => a7 k_)) ∧ Aside0 (Below w0.heap.size w0 w'))
   case atStart => exact ⟨(aI),(0),Z22,H',⟨Nat.le_refl _⟩,⟨Z17 aN.out⟩,⟨Z1 aA.out⟩,⟨Z37 aF.out⟩,⟨Z3 aH.out⟩⟩
   case round =>
    clear H';obtain ⟨aI,aC,rfl,HA,HK2,aN,aA,HK,HB⟩:=hrel
    cases gk with
    | zero => exact absurd HA.out (by simp [spec_calls.l0])
    | succ k2 =>
     have H:=HA.out;clear HA;simp only [spec_calls.l0] at H
     by_cases dC : aC < (aB.length : Int)
     ·rw [if_pos dC] at H
      have dF:=dt dC;clear dC
      by_cases dW : 0 ≤ aC
      ·rw [if_pos dW] at H
       have fB:=dt dW;clear dW;replace H:=bS H;obtain ⟨cJ,dG,H⟩:=H
       try dsimp only at H
       have fJ:=A_ dG;clear dG;have H':=A_ H;clear H;obtain ⟨dX,dY,dZ,d0,d1,d2,d3,d4,d5,d6,d7,d8,d9,eA⟩:=C7 aA.out;have bW : 0 ≤ (aC : Int):=odt;have bX : aC < (aB.length : Int):=odt;obtain ⟨eT,b8,b9,cA,cB,cC,cD,cE,cF,cG,cH,dH,aP,aQ,aR,aS,aT,aU,aV,aW,aX,aY,aZ,a0,a2,a3,a4,a5,a6⟩:=at_T46 dD.out aC bW bX;cases dH;replace aP:=pw_cell_below HB.out aP;replace aQ:=pw_cell_below HB.out aQ;replace aR:=pw_cell_below HB.out aR;replace aS:=pw_cell_below HB.out aS;replace aT:=pw_cell_below HB.out aT;replace aU:=pw_cell_below HB.out aU;replace aV:=pw_cell_below HB.out aV;have bY:=A_ aX;have bZ:=A_ aW;clear aX aW;have b0:=A_ aZ;have b1:=A_ aY;clear aZ aY;have b2:=A_ a2;have b3:=A_ a0;clear a2 a0;have b4:=A_ a4;have b5:=A_ a3;clear a4 a3;have b6:=A_ a6;have b7:=A_ a5;clear a6 a5;replace bW:=eq_true bW;replace bX:=eq_true bX;obtain ⟨dA,dB,eU⟩:=Kd.R_slice aN.out
       subst eU
       go_wp2_with (first | ((with_reducible refine gate_callee (f:=18) rfl ?_);refine gL 25 Try.func18 #[.agg #[.int .i64 ((rd_T46 aB aC).f0),.int .i64 ((rd_T46 aB aC).f1),.slice b8 ((rd_T46 aB aC).f2).length b9,.slice cA ((rd_T46 aB aC).f3).length cB,.slice cC ((rd_T46 aB aC).f4).length cD,.slice cE ((rd_T46 aB aC).f5).length cF,.slice cG ((rd_T46 aB aC).f6).length cH],.slice dA aI.length dB] ?_;(with_reducible refine (ih k2 (by have:=eS.out;have:=HK2.out;omega) ((rd_T46 aB aC).f0) ((rd_T46 aB aC).f1) _ _ ((rd_T46 aB aC).f2) _ _ ((rd_T46 aB aC).f3) _ _ ((rd_T46 aB aC).f4) _ _ ((rd_T46 aB aC).f5) _ _ ((rd_T46 aB aC).f6) (fun k_ => some k_ = (.slice dA aI.length dB : Value).ownBlock) (.slice dA aI.length dB) aI cJ w0 _ ?s1 bY.out bZ.out b0.out b1.out b2.out b3.out b4.out b5.out b6.out b7.out ?s12 fJ.out).mono ?_);(case s1 => exact Z3 aH.out);(case s12 => exact Kd.R_tight rfl aN.out);rintro e fN ⟨rfl,fC,hb,hkp⟩;refine ⟨_,rfl,?_⟩;replace aA:=A_ (blk_kept (Z1 aA.out) hkp (fun hs_ => (fun e_ => (Kd.R_ne aN.out aA.out (by decide)) e_) hs_));replace HK:=A_ (Kept.then_ (S:=(fun k_ => a7 k_)) (Z37 aF.out) hkp (fun k_ hs_ => (fun e_ => (aN.out.1 k_ e_.symm)) hs_));replace aN:=A_ (Kd.R_reok rfl fC (fun k_ e_ => aN.out.1 k_ e_));replace HB:=A_ hb;(try clear hb);(try clear hkp);(try clear fC)))
       go_roundg k2
       case measure => have:=eS.out;have:=HK2.out;omega
       case rel => exact ⟨(cJ),(wrap64 (aC + 1)),Z22,H',⟨by have:=eS.out;have:=HK2.out;omega⟩,⟨Z17 aN.out⟩,⟨Z1 aA.out⟩,⟨Z37 aF.out⟩,⟨Z3 aH.out⟩⟩
      ·rw [if_neg dW] at H
       exact absurd H (by simp)
     ·rw [if_neg dC] at H
      have dF:=df dC;clear dC;obtain rfl:=Option.some.inj H;obtain ⟨eB,eC,eD,eE,eF,eG,eH,eI,eJ,eK,eL,eM,eN,eO⟩:=C7 aA.out
      go_wp2
      first | go_end0 | ((try simp only [Exit.inBlock,Exit.then]);refine bodyPost_ret (results_none rfl _ _ _) rfl ?_)
      exact ⟨Z12,Z17 aN.out,Z3 aH.out,Z37 aF.out⟩
end Go.Proofs.Ytmgdjmeoljepgaa.PFnProgBelow
