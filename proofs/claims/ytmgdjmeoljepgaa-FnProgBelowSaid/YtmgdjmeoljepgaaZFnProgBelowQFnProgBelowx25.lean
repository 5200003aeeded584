/- Walks (lines of the print; no condition). -/
import Derived.Test.YtmgdjmeoljepgaaZFnProgBelowQFnProgBelowx24
namespace Go.Proofs.Ytmgdjmeoljepgaa.PFnProgBelow
open Go.RowKit Go.Proofs.YtmgdjmeoljepgaaW.PrintWords Go.Proofs.YtmgdjmeoljepgaaW.PrintLast Go.Proofs.YtmgdjmeoljepgaaW.PrintMore
attribute [local go_sem] max2_int min2_int max_two min_two max_three min_three max_four min_four
set_option linter.unusedVariables false
set_option linter.unusedSimpArgs false
set_option maxHeartbeats 8000000
set_option maxRecDepth 100000
mutual
def spec_ProgBelow.j0 : Nat → List (S48) → Int → Bool → Option (List Int)
 | 0,_,_,_ => none
 | k + 1,x0,x1,aC => if aC = true then (some ([] : List Int)) else (if 0 ≤ (x0.length : Int) then (if ((x0.length : Int) : Int).toNat ≤ 281474976710656 then (if 0 ≤ x1 then (if x1 < (x0.length : Int) then ((spec_calls.f k ((rd_T48 x0 x1).f3.f0) ((rd_T48 x0 x1).f3.f1) ((rd_T48 x0 x1).f3.f2) ((rd_T48 x0 x1).f3.f3) ((rd_T48 x0 x1).f3.f4) ((rd_T48 x0 x1).f3.f5) ((rd_T48 x0 x1).f3.f6) (List.replicate ((x0.length : Int) : Int).toNat false)).bind fun aA => (spec_ProgBelow.l0 k x0 aA (([] : List Int)) (wrap64 (x1 + 1)))) else (none)) else (none)) else (none)) else (none))
def spec_ProgBelow.l0 : Nat → List (S48) → List Bool → List Int → Int → Option (List Int)
 | 0,_,_,_,_ => none
 | k + 1,x0,x5,x6,x7 => if x7 < (x0.length : Int) then (if 0 ≤ x7 then (if x7 < (x5.length : Int) then (if rdOf false x5 x7 = true then ((spec_calls.f k ((rd_T48 x0 x7).f3.f0) ((rd_T48 x0 x7).f3.f1) ((rd_T48 x0 x7).f3.f2) ((rd_T48 x0 x7).f3.f3) ((rd_T48 x0 x7).f3.f4) ((rd_T48 x0 x7).f3.f5) ((rd_T48 x0 x7).f3.f6) x5).bind fun aB => (if x6.length < 17592186044416 then (spec_ProgBelow.l0 k x0 aB (x6 ++ [x7]) (wrap64 (x7 + 1))) else (none))) else (spec_ProgBelow.l0 k x0 x5 x6 (wrap64 (x7 + 1)))) else (none)) else (none)) else (some x6)
end
def spec_ProgBelow.f (k : Nat) (l0 : List (S48)) (a1 : Int) : Option (List Int):=(spec_validProg.f k l0).bind fun aA => (if aA = true then ((spec_inRange.f a1 0 (wrap64 ((l0.length : Int) - 1))).bind fun aB => (spec_ProgBelow.j0 k l0 a1 (!aB))) else (spec_ProgBelow.j0 k l0 a1 true))
theorem spec_ProgBelow.calls (k : Nat) (A0 : Option Addr) (c0 : Nat) (l0 : List (S48)) (a1 : Int) (r : List Int) (w : World) (fJ : Kd.C k48 w A0 l0.length l0) (hc0 : l0.length ≤ c0) (h : spec_ProgBelow.f k l0 a1 = some r) :
  Calls Try.prog 6 #[.slice A0 l0.length c0,.int .i64 a1] w fun e w' => ∃ fK : Value,e = .returned (fK) ∧ Kd.R (Kd.int .i64) 3 w' w.heap.size (fun _ => True) fK r ∧ Below w.heap.size w w':=by
 have fT:=Try.underlying46;have e0:=A_ fJ;have fL:=A_ hc0;clear fJ hc0;have HB:=A_ (Below.refl w.heap.size w);have H:=h;unfold spec_ProgBelow.f at H;clear h;have fH:=A_ H;clear H
 go_enter Try.func6,Try.ntmps6
 go_upto_region 1 with (fail)
 go_cut [18] (fun fU wc => ∃ (kq : Nat) (cA : Bool),fU = .bool cA ∧ Aside0 (spec_ProgBelow.j0 kq l0 a1 cA = some r) ∧ Aside0 (kq ≤ k) ∧ Aside0 (Below w.heap.size w wc))
 case first =>
  have H:=fH.out;clear fH;replace H:=bS H;obtain ⟨eB,fM,H⟩:=H
  try dsimp only at H
  have A4:=A_ fM;clear fM
  by_cases c5 : eB = true
  ·subst c5
   rw [if_pos rfl] at H;replace H:=bS H;obtain ⟨d2,fN,H⟩:=H
   try dsimp only at H
   have A6:=A_ fN;clear fN;have H':=A_ H;clear H
   go_wp2_with (first | ((with_reducible refine gate_callee (f:=16) rfl ?_);refine gL 9 Try.func16 #[.slice A0 l0.length c0] ?_;(with_reducible refine (spec_validProg.calls k _ _ l0 true _ ?s1 fL.out A4.out).mono ?_);(case s1 => exact Z9 e0.out);rintro e w7 ⟨rfl,hb⟩;refine ⟨_,rfl,?_⟩;replace HB:=A_ (bst Z2 hb);(try clear hb)) | (go_at_call 17;(with_reducible refine (spec_inRange.calls a1 0 (wrap64 ((l0.length : Int) - 1)) d2 _ A6.out).mono ?_);rintro e w' ⟨rfl,⟨nd,rfl⟩⟩))
   go_meet
   case rel => exact ⟨_,(!d2),Z22,H',⟨Z47⟩,⟨Z2⟩⟩
  ·replace c5:=Bool.eq_false_iff.mpr c5
   subst c5;rw [if_neg (show ¬ (false = true) by decide)] at H;have H':=A_ H;clear H
   go_wp2_with (first | ((with_reducible refine gate_callee (f:=16) rfl ?_);refine gL 9 Try.func16 #[.slice A0 l0.length c0] ?_;(with_reducible refine (spec_validProg.calls k _ _ l0 false _ ?s1 fL.out A4.out).mono ?_);(case s1 => exact Z9 e0.out);rintro e w8 ⟨rfl,hb⟩;refine ⟨_,rfl,?_⟩;replace HB:=A_ (bst Z2 hb);(try clear hb)))
   go_meet
   case rel => exact ⟨_,(true),Z22,H',⟨Z47⟩,⟨Z2⟩⟩
 case rest =>
  clear fH;obtain ⟨kq,cA,rfl,HA,e1,HB⟩:=hcut
  cases kq with
  | zero => exact absurd HA.out (by simp [spec_ProgBelow.j0])
  | succ e2 =>
   have H:=HA.out;clear HA;simp only [spec_ProgBelow.j0] at H
   by_cases c9 : cA = true
   ·subst c9
    rw [if_pos rfl] at H;obtain rfl:=Option.some.inj H
    go_wp2
    go_ret
    exact ⟨_,Z12,Z29,Z2⟩
   ·replace c9:=Bool.eq_false_iff.mpr c9
    subst c9;rw [if_neg (show ¬ (false = true) by decide)] at H
    by_cases c10 : 0 ≤ (l0.length : Int)
    ·rw [if_pos c10] at H
     have eC:=eq_true c10;have eD:=dt c10;clear c10
     by_cases eE : ((l0.length : Int) : Int).toNat ≤ 281474976710656
     ·rw [if_pos eE] at H
      have eF:=eq_true eE;have eG:=dt eE;clear eE;obtain ⟨a3,aZ⟩ : ∃ y_ : List Bool,y_ = (List.replicate ((l0.length : Int) : Int).toNat false):=⟨_,rfl⟩
      first | rw [← aZ,Option.bind_some] at H | rw [← aZ] at H
      have cE:=A_ aZ;clear aZ
      by_cases e3 : 0 ≤ a1
      ·rw [if_pos e3] at H
       have eH:=dt e3;clear e3
       by_cases e4 : a1 < (l0.length : Int)
       ·rw [if_pos e4] at H
        have eI:=dt e4;clear e4;replace H:=bS H;obtain ⟨cF,eJ,H⟩:=H
        try dsimp only at H
        have fV:=A_ eJ;clear eJ;obtain ⟨d3,b8⟩ : ∃ y_ : List Int,y_ = (([] : List Int)):=⟨_,rfl⟩;replace H : (spec_ProgBelow.l0 e2 l0 cF d3 (wrap64 (a1 + 1))) = some r:=yH b8;have cG:=A_ b8;clear b8;have H':=A_ H;clear H
        go_wp2_with (first | ((with_reducible refine gate_dst (N:=21) rfl ?_);(try (refine gate_guard (by rfl) ?_;dsimp only));refine Kd.R_make Kd.bool _ 4 rfl (N:=21) rfl 37 _ _ rfl (l0.length : Int) rfl rfl Try.underlying37 (.bool false) 1 info4 rfl (by decide) (by omega) false (ok:=fun _ => True) (okp:=fun _ => True) rfl (fun _ hk => hk) trivial (odt) (Nat.le_trans (Nat.mul_le_mul_right _ (odt : (l0.length : Int).toNat ≤ 281474976710656)) (by omega)) (Below.refl _ _) (Nat.le_refl _) ?_;intro fO fX cH hb hg_ hnew_;clear hg_ hnew_;(first | rw [← cE.out] at cH | (simp only [Int.reduceToNat] at cH;rw [← cE.out] at cH));have aC:=A_ (Kd.R_lower cH (bz Z2));replace HB:=A_ (bst Z2 hb);clear hb cH;have cB : 0 ≤ (a1 : Int):=odt;have cC : a1 < (l0.length : Int):=odt;obtain ⟨d5,e5,e6,e7,e8,dH,dI,dJ,dK,dL,dM,dN,dO,dP,dQ,eK,aH,aI,aJ,aK,aM,aN,aQ,aR,aT,aU,a4,a5,a6,a7,a8,a9,bA,bB,bC,bD,bE,bF,bG,bH⟩:=at_T48 e0.out a1 cB cC;cases eK;replace aH:=ZC HB.out aH;replace aI:=ZC HB.out aI;replace aJ:=ZC HB.out aJ;replace aK:=ZC HB.out aK;replace aM:=ZC HB.out aM;replace aN:=ZC HB.out aN;replace aQ:=ZC HB.out aQ;replace aR:=ZC HB.out aR;replace aT:=ZC HB.out aT;replace aU:=ZC HB.out aU;have eL:=A_ a5;have eM:=A_ a4;clear a5 a4;have eN:=A_ a7;have eO:=A_ a6;clear a7 a6;have cI:=A_ a9;have cJ:=A_ a8;clear a9 a8;have cK:=A_ bB;have cL:=A_ bA;clear bB bA;have cM:=A_ bD;have cN:=A_ bC;clear bD bC;have cO:=A_ bF;have cP:=A_ bE;clear bF bE;have cQ:=A_ bH;have cR:=A_ bG;clear bH bG;replace cB:=eq_true cB;replace cC:=eq_true cC;obtain ⟨dR,b9,fI⟩:=Kd.R_slice aC.out;subst fI) | ((with_reducible refine gate_callee (f:=18) rfl ?_);refine gL 28 Try.func18 #[.agg #[.int .i64 ((rd_T48 l0 a1).f3.f0),.int .i64 ((rd_T48 l0 a1).f3.f1),.slice dH ((rd_T48 l0 a1).f3.f2).length dI,.slice dJ ((rd_T48 l0 a1).f3.f3).length dK,.slice dL ((rd_T48 l0 a1).f3.f4).length dM,.slice dN ((rd_T48 l0 a1).f3.f5).length dO,.slice dP ((rd_T48 l0 a1).f3.f6).length dQ],.slice dR a3.length b9] ?_;(with_reducible refine (spec_calls.calls e2 ((rd_T48 l0 a1).f3.f0) ((rd_T48 l0 a1).f3.f1) _ _ ((rd_T48 l0 a1).f3.f2) _ _ ((rd_T48 l0 a1).f3.f3) _ _ ((rd_T48 l0 a1).f3.f4) _ _ ((rd_T48 l0 a1).f3.f5) _ _ ((rd_T48 l0 a1).f3.f6) (fun k_ => some k_ = (.slice dR a3.length b9 : Value).ownBlock) (.slice dR a3.length b9) a3 cF w _ ?s1 cI.out cJ.out cK.out cL.out cM.out cN.out cO.out cP.out cQ.out cR.out ?s12 fV.out).mono ?_);(case s1 => exact Z2);(case s12 => exact Kd.R_tight rfl aC.out);rintro e fY ⟨rfl,eP,hb,hkp⟩;refine ⟨_,rfl,?_⟩;replace aC:=A_ (Kd.R_reok rfl eP (fun k_ e_ => aC.out.1 k_ e_));replace HB:=A_ hb;(try clear hb);(try clear hkp);(try clear eP)) | ((with_reducible refine gate_dst (N:=29) rfl ?_);(try (refine gate_guard (by rfl) ?_;dsimp only));refine Kd.R_lit (Kd.int .i64) _ 3 ?hg (N:=29) ?hd (xs:=([] : List Int)) (inner:=[]) (ok:=fun _ => True) (okp:=fun _ => True) ?hr ?hp (fun _ hk => hk) trivial (Below.refl _ _) (Nat.le_refl _) (by simp) ?_;(case hd => rfl);(case hg => rfl);(case hr => exact Z51);(case hp => exact (Reps.none _ _));intro fP fZ cS hb hg_ hnew_;clear hg_ hnew_;(first | rw [← cG.out] at cS | (simp only [Int.reduceToNat] at cS;rw [← cG.out] at cS));replace aC:=A_ (Kd.R_below (Z17 aC.out) hb);have d6:=A_ (Kd.R_lower cS (bz Z2));replace HB:=A_ (bst Z2 hb);clear hb cS))
        go_loopg [6,7] e2 (fun kq v6 v7 w' => ∃ (aD : List Bool) (aY : List Int) (aA : Int),v7 = .int .i64 aA ∧ Aside0 (spec_ProgBelow.l0 kq l0 aD aY aA = some r) ∧ Aside0 (kq ≤ e2) ∧ Aside0 (Kd.R Kd.bool 4 w' w.heap.size (fun _ => True) (.slice dR a3.length b9) aD) ∧ Aside0 (Kd.R (Kd.int .i64) 3 w' w.heap.size (fun _ => True) v6 aY) ∧ Aside0 (Below w.heap.size w w'))
        case atStart => exact ⟨(cF),(d3),(wrap64 (a1 + 1)),Z22,H',⟨Nat.le_refl _⟩,⟨Z17 aC.out⟩,⟨Z17 d6.out⟩,⟨Z2⟩⟩
        case round =>
         clear H' eC eD eF eG eH eI aH aI aJ aK aM aN aQ aR aT aU cB cC;obtain ⟨aD,aY,aA,rfl,HA,HK2,aG,bI,HB⟩:=hrel;have aE:=(Kd.R_reads' aG.out).1;rw [aE] at aG;(try simp only [aE]);(try simp only [aE] at bI)
         cases gk with
         | zero => exact absurd HA.out (by simp [spec_ProgBelow.l0])
         | succ k2 =>
          have H:=HA.out;clear HA;simp only [spec_ProgBelow.l0] at H
          by_cases eA : aA < (l0.length : Int)
          ·rw [if_pos eA] at H
           have eQ:=dt eA;clear eA
           by_cases e9 : 0 ≤ aA
           ·rw [if_pos e9] at H
            have fQ:=dt e9;clear e9
            by_cases fA : aA < (aD.length : Int)
            ·rw [if_pos fA] at H
             have fR:=dt fA;clear fA;obtain ⟨eR,cT⟩ : ∃ b_ : Bool,b_ = (rdOf false aD aA):=⟨_,rfl⟩
             replace H : (if eR = true then ((spec_calls.f k2 ((rd_T48 l0 aA).f3.f0) ((rd_T48 l0 aA).f3.f1) ((rd_T48 l0 aA).f3.f2) ((rd_T48 l0 aA).f3.f3) ((rd_T48 l0 aA).f3.f4) ((rd_T48 l0 aA).f3.f5) ((rd_T48 l0 aA).f3.f6) aD).bind fun cD => (if aY.length < 17592186044416 then (spec_ProgBelow.l0 k2 l0 cD (aY ++ [aA]) (wrap64 (aA + 1))) else (none))) else (spec_ProgBelow.l0 k2 l0 aD aY (wrap64 (aA + 1)))) = some r:=by rw [← cT] at H;exact H
             have d4:=A_ cT;clear cT
             by_cases fB : eR = true
             ·subst fB
              rw [if_pos rfl] at H;replace H:=bS H;obtain ⟨cD,eS,H⟩:=H
              try dsimp only at H
              have fW:=A_ eS;clear eS
              by_cases fC : aY.length < 17592186044416
              ·rw [if_pos fC] at H
               have eT:=A_ fC;clear fC;obtain ⟨eU,a0⟩ : ∃ y_ : List Int,y_ = (aY ++ [aA]):=⟨_,rfl⟩
               first | rw [← a0,Option.bind_some] at H | rw [← a0] at H
               have d7:=A_ a0;clear a0;have H':=A_ H;clear H;have aV : 0 ≤ (aA : Int):=odt;have aW : aA < (aD.length : Int):=odt;obtain ⟨a2,cU,aX⟩:=Kd.at_bool (Kd.R_reads' aG.out).2.2 aA aV aW;(try rw [← d4.out] at aX);cases cU;replace aV:=eq_true aV;replace aW:=eq_true aW;have cV : 0 ≤ (aA : Int):=odt;have cW : aA < (l0.length : Int):=odt;obtain ⟨d8,fD,fE,fF,fG,dS,dT,dU,dV,dW,dX,dY,dZ,d0,d1,eV,bJ,bK,bL,bM,bN,bO,bP,bQ,bR,bT,bU,bV,bW,bX,bY,bZ,b0,b1,b2,b3,b4,b5,b6,b7⟩:=at_T48 e0.out aA cV cW;obtain rfl : d5 = d8:=(by injection eV);replace bJ:=ZC HB.out bJ;replace bK:=ZC HB.out bK;replace bL:=ZC HB.out bL;replace bM:=ZC HB.out bM;replace bN:=ZC HB.out bN;replace bO:=ZC HB.out bO;replace bP:=ZC HB.out bP;replace bQ:=ZC HB.out bQ;replace bR:=ZC HB.out bR;replace bT:=ZC HB.out bT;have eW:=A_ bV;have eX:=A_ bU;clear bV bU;have eY:=A_ bX;have eZ:=A_ bW;clear bX bW
               have cX:=A_ bZ;have cY:=A_ bY;clear bZ bY;have cZ:=A_ b1;have dA:=A_ b0;clear b1 b0;have dB:=A_ b3;have dC:=A_ b2;clear b3 b2;have dD:=A_ b5;have dE:=A_ b4;clear b5 b4;have dF:=A_ b7;have dG:=A_ b6;clear b7 b6;replace cV:=eq_true cV;replace cW:=eq_true cW
               go_wp2_with (first | ((with_reducible refine gate_callee (f:=18) rfl ?_);refine gL 48 Try.func18 #[.agg #[.int .i64 ((rd_T48 l0 aA).f3.f0),.int .i64 ((rd_T48 l0 aA).f3.f1),.slice dS ((rd_T48 l0 aA).f3.f2).length dT,.slice dU ((rd_T48 l0 aA).f3.f3).length dV,.slice dW ((rd_T48 l0 aA).f3.f4).length dX,.slice dY ((rd_T48 l0 aA).f3.f5).length dZ,.slice d0 ((rd_T48 l0 aA).f3.f6).length d1],.slice (some a2) aD.length b9] ?_;(with_reducible refine (spec_calls.calls k2 ((rd_T48 l0 aA).f3.f0) ((rd_T48 l0 aA).f3.f1) _ _ ((rd_T48 l0 aA).f3.f2) _ _ ((rd_T48 l0 aA).f3.f3) _ _ ((rd_T48 l0 aA).f3.f4) _ _ ((rd_T48 l0 aA).f3.f5) _ _ ((rd_T48 l0 aA).f3.f6) (fun k_ => some k_ = (.slice (some a2) aD.length b9 : Value).ownBlock) (.slice (some a2) aD.length b9) aD cD w _ ?s1 cX.out cY.out cZ.out dA.out dB.out dC.out dD.out dE.out dF.out dG.out ?s12 fW.out).mono ?_);(case s1 => exact Z2);(case s12 => exact Kd.R_tight rfl aG.out);rintro e f7 ⟨rfl,eP,hb,hkp⟩;refine ⟨_,rfl,?_⟩;replace bI:=A_ (Rm (ok':=fun k_ => True) (Kd.R_keptB ((Kd.R_apart' bI.out (Kd.R_typed aG.out) (by decide))) hkp (fun k_ hk_ hs_ => (hk_.2) hs_)) (fun k_ hk_ => trivial));replace aG:=A_ (Kd.R_reok rfl eP (fun k_ e_ => aG.out.1 k_ e_));replace HB:=A_ hb;(try clear hb);(try clear hkp);(try clear eP)) | ((with_reducible refine gate_builtin (b:=.append) (xs:=#[.tmp 49,.tmp 51]) rfl ?_);(try (refine gate_guard (by rfl) ?_;dsimp only));at_builtin;refine Kd.R_append (Kd.int .i64) (w0:=w) w.heap.size rfl (.tmp 49) (.tmp 51) 26 3 (.int .i64 0) 8 rfl Try.underlying26 info3 rfl (by decide) (by omega) u6 aY aA [.int .i64 aA] (fun _ => True) (fun _ => False) rfl rfl ?aP (fun _ hk => hk.elim) ?aF ?aO ?aB ?aS ?aL ?_;(case aP => exact rfl);(case aB => exact Z2);(case aF => exact (fun _ _ => trivial));(case aO => exact (Z17 bI.out));(case aS => exact (bz Z2));(case aL => have:=eT.out;omega);intro fS f8 ho hb hg hat;rw [← d7.out] at ho;replace aG:=A_ (Kd.R_over' (Z17 aG.out) (Kd.R_typed (Z17 bI.out)) (by decide) hg);replace HB:=A_ hb;have d9:=A_ ho;clear bI;clear ho hb hg hat))
               (try simp only [← aE])
               go_roundg k2
               case measure => have:=e1.out;have:=HK2.out;omega
               case rel => exact ⟨(cD),(eU),(wrap64 (aA + 1)),Z22,H',⟨by have:=e1.out;have:=HK2.out;omega⟩,⟨by (try simp only [aE]);(with_reducible repeat (first | apply Kd.R_alloc | apply Kd.R_drewN | apply Kd.R_drew));exact aG.out⟩,⟨by (try simp only [aE]);(with_reducible repeat (first | apply Kd.R_alloc | apply Kd.R_drewN | apply Kd.R_drew));exact d9.out⟩,⟨Z2⟩⟩
              ·rw [if_neg fC] at H
               exact absurd H (by simp)
             ·replace fB:=Bool.eq_false_iff.mpr fB
              subst fB;rw [if_neg (show ¬ (false = true) by decide)] at H;have H':=A_ H;clear H;have aV : 0 ≤ (aA : Int):=odt;have aW : aA < (aD.length : Int):=odt;obtain ⟨a2,cU,aX⟩:=Kd.at_bool (Kd.R_reads' aG.out).2.2 aA aV aW;(try rw [← d4.out] at aX);cases cU;replace aV:=eq_true aV;replace aW:=eq_true aW
              go_wp2
              (try simp only [← aE])
              go_roundg k2
              case measure => have:=e1.out;have:=HK2.out;omega
              case rel => exact ⟨(aD),(aY),(wrap64 (aA + 1)),Z22,H',⟨by have:=e1.out;have:=HK2.out;omega⟩,⟨by (try simp only [aE]);(with_reducible repeat (first | apply Kd.R_alloc | apply Kd.R_drewN | apply Kd.R_drew));exact aG.out⟩,⟨by (try simp only [aE]);(with_reducible repeat (first | apply Kd.R_alloc | apply Kd.R_drewN | apply Kd.R_drew));exact bI.out⟩,⟨Z2⟩⟩
            ·rw [if_neg fA] at H
             exact absurd H (by simp)
           ·rw [if_neg e9] at H
            exact absurd H (by simp)
          ·rw [if_neg eA] at H
           have eQ:=df eA;clear eA;obtain rfl:=Option.some.inj H
           go_wp2
           go_ret
           exact ⟨_,Z12,Z17 bI.out,Z2⟩
       ·rw [if_neg e4] at H
        exact absurd H (by simp)
      ·rw [if_neg e3] at H
       exact absurd H (by simp)
     ·rw [if_neg eE] at H
      exact absurd H (by simp)
    ·rw [if_neg c10] at H
     exact absurd H (by simp)
def spec_SameInts.l0 : Nat → List Int → List Int → Int → Option (Bool)
 | 0,_,_,_ => none
 | k + 1,x0,x1,x5 => if x5 < (x0.length : Int) then (if 0 ≤ x5 then (if x5 < (x1.length : Int) then (if (rd x0 x5) = (rd x1 x5) then (spec_SameInts.l0 k x0 x1 (wrap64 (x5 + 1))) else (some false)) else (none)) else (none)) else (some true)
def spec_SameInts.f (k : Nat) (l0 : List Int) (l1 : List Int) : Option (Bool):=if (l0.length : Int) = (l1.length : Int) then (spec_SameInts.l0 k l0 l1 0) else (some false)
theorem spec_SameInts.calls (k : Nat) (A0 : Option Addr) (c0 : Nat) (l0 : List Int) (A1 : Option Addr) (c1 : Nat) (l1 : List Int) (r : Bool) (w : World) (aR : Kd.C (Kd.int .i64) w A0 l0.length l0) (hc0 : l0.length ≤ c0) (hr1 : Kd.C (Kd.int .i64) w A1 l1.length l1) (aS : l1.length ≤ c1) (h : spec_SameInts.f k l0 l1 = some r) :
  Calls Try.prog 7 #[.slice A0 l0.length c0,.slice A1 l1.length c1] w fun e w' => e = .returned (.bool r) ∧ Drawn0 w w':=by
 have aT:=A_ aR;have aY:=A_ hc0;clear aR hc0;have aU:=A_ hr1;have aZ:=A_ aS;clear hr1 aS;have H:=h;unfold spec_SameInts.f at H;clear h
 by_cases c3 : (l0.length : Int) = (l1.length : Int)
 ·rw [if_pos c3] at H
  have aL : ((l0.length : Int) == (l1.length : Int)) = true:=beq_iff_eq.mpr c3;have aM : ((l0.length : Int) != (l1.length : Int)) = false:=bne_eq_false_iff_eq.mpr c3
  have aN : (l0.length == l1.length) = true:=by first | simpa using c3 | (simp at c3 ⊢;omega)
  clear c3;have H':=A_ H;clear H
  go_enter Try.func7,Try.ntmps7
  go_wp2
  repeat (go_quiet (fail);try go_wp2)
  go_loopg [5] k (fun kq v5 w' => ∃ (aA : Int),v5 = .int .i64 aA ∧ Aside0 (spec_SameInts.l0 kq l0 l1 aA = some r) ∧ Aside0 (kq ≤ k) ∧ Drawn0 w w')
  case atStart => exact ⟨(0),Z22,H',⟨Nat.le_refl _⟩,Z34⟩
  case round =>
   clear H' aL aM aN;obtain ⟨aA,rfl,HA,aV,⟨m1,rfl⟩⟩:=hrel
   cases gk with
   | zero => exact absurd HA.out (by simp [spec_SameInts.l0])
   | succ k1 =>
    have H:=HA.out;clear HA;simp only [spec_SameInts.l0] at H
    by_cases c4 : aA < (l0.length : Int)
    ·rw [if_pos c4] at H
     have aO:=dt c4;clear c4
     by_cases c5 : 0 ≤ aA
     ·rw [if_pos c5] at H
      have aW:=dt c5;clear c5
      by_cases c6 : aA < (l1.length : Int)
      ·rw [if_pos c6] at H
       have aX:=dt c6;clear c6
       by_cases c7 : (rd l0 aA) = (rd l1 aA)
       ·rw [if_pos c7] at H
        have aP : ((rd l0 aA) == (rd l1 aA)) = true:=beq_iff_eq.mpr c7;have aQ : ((rd l0 aA) != (rd l1 aA)) = false:=bne_eq_false_iff_eq.mpr c7;clear c7;have H':=A_ H;clear H;have aB : 0 ≤ (aA : Int):=odt;have aC : aA < (l0.length : Int):=odt;obtain ⟨aJ,aF,aG⟩:=Kd.at_int aT.out aA aB aC;cases aF;replace aB:=eq_true aB;replace aC:=eq_true aC;have aD : 0 ≤ (aA : Int):=odt;have aE : aA < (l1.length : Int):=odt;obtain ⟨aK,aH,aI⟩:=Kd.at_int aU.out aA aD aE;cases aH;replace aD:=eq_true aD;replace aE:=eq_true aE
        go_wp2
        repeat (go_quiet (fail);try go_wp2)
        go_roundg k1
        case measure => have:=aV.out;omega
        case rel => exact ⟨(wrap64 (aA + 1)),Z22,H',⟨by have:=aV.out;omega⟩,Z34⟩
       ·rw [if_neg c7] at H
        have aP : ((rd l0 aA) == (rd l1 aA)) = false:=beq_eq_false_iff_ne.mpr c7;have aQ : ((rd l0 aA) != (rd l1 aA)) = true:=bne_iff_ne.mpr c7;obtain rfl:=Option.some.inj H;have aB : 0 ≤ (aA : Int):=odt;have aC : aA < (l0.length : Int):=odt;obtain ⟨aJ,aF,aG⟩:=Kd.at_int aT.out aA aB aC;cases aF;replace aB:=eq_true aB;replace aC:=eq_true aC;have aD : 0 ≤ (aA : Int):=odt;have aE : aA < (l1.length : Int):=odt;obtain ⟨aK,aH,aI⟩:=Kd.at_int aU.out aA aD aE;cases aH;replace aD:=eq_true aD;replace aE:=eq_true aE
        go_wp2
        repeat (go_quiet (fail);try go_wp2)
        go_ret
        exact ⟨Z22,Z34⟩
      ·rw [if_neg c6] at H
       exact absurd H (by simp)
     ·rw [if_neg c5] at H
      exact absurd H (by simp)
    ·rw [if_neg c4] at H
     have aO:=df c4;clear c4;obtain rfl:=Option.some.inj H
     go_wp2
     repeat (go_quiet (fail);try go_wp2)
     go_ret
     exact ⟨Z22,Z34⟩
 ·rw [if_neg c3] at H
  have aL : ((l0.length : Int) == (l1.length : Int)) = false:=beq_eq_false_iff_ne.mpr c3;have aM : ((l0.length : Int) != (l1.length : Int)) = true:=bne_iff_ne.mpr c3
  have aN : (l0.length == l1.length) = false:=by first | simpa using c3 | (simp at c3 ⊢;omega)
  obtain rfl:=Option.some.inj H
  go_enter Try.func7,Try.ntmps7
  go_wp2
  repeat (go_quiet (fail);try go_wp2)
  go_ret
  exact ⟨Z22,Z34⟩
def spec_hasInt.l0 : Nat → List Int → Int → Int → Option (Bool)
 | 0,_,_,_ => none
 | k + 1,x0,x1,x5 => if x5 < (x0.length : Int) then (if 0 ≤ x5 then (if (rd x0 x5) = x1 then (some true) else (spec_hasInt.l0 k x0 x1 (wrap64 (x5 + 1)))) else (none)) else (some false)
def spec_hasInt.f (k : Nat) (l0 : List Int) (a1 : Int) : Option (Bool):=spec_hasInt.l0 k l0 a1 0
theorem spec_hasInt.calls (k : Nat) (A0 : Option Addr) (c0 : Nat) (l0 : List Int) (a1 : Int) (r : Bool) (w : World) (aJ : Kd.C (Kd.int .i64) w A0 l0.length l0) (hc0 : l0.length ≤ c0) (h : spec_hasInt.f k l0 a1 = some r) :
  Calls Try.prog 19 #[.slice A0 l0.length c0,.int .i64 a1] w fun e w' => e = .returned (.bool r) ∧ Drawn0 w w':=by
 have aK:=A_ aJ;have aN:=A_ hc0;clear aJ hc0;have H:=h;unfold spec_hasInt.f at H;clear h;have H':=A_ H;clear H
 go_enter Try.func19,Try.ntmps19
 go_wp2
 go_loopg [5] k (fun kq v5 w' => ∃ (aA : Int),v5 = .int .i64 aA ∧ Aside0 (spec_hasInt.l0 kq l0 a1 aA = some r) ∧ Aside0 (kq ≤ k) ∧ Drawn0 w w')
 case atStart => exact ⟨(0),Z22,H',⟨Nat.le_refl _⟩,Z34⟩
 case round =>
  clear H';obtain ⟨aA,rfl,HA,aL,⟨m1,rfl⟩⟩:=hrel
  cases gk with
  | zero => exact absurd HA.out (by simp [spec_hasInt.l0])
  | succ k1 =>
   have H:=HA.out;clear HA;simp only [spec_hasInt.l0] at H
   by_cases c3 : aA < (l0.length : Int)
   ·rw [if_pos c3] at H
    have aG:=dt c3;clear c3
    by_cases c4 : 0 ≤ aA
    ·rw [if_pos c4] at H
     have aM:=dt c4;clear c4
     by_cases c5 : (rd l0 aA) = a1
     ·rw [if_pos c5] at H
      have aH : ((rd l0 aA) == a1) = true:=beq_iff_eq.mpr c5;have aI : ((rd l0 aA) != a1) = false:=bne_eq_false_iff_eq.mpr c5;clear c5;obtain rfl:=Option.some.inj H;have aB : 0 ≤ (aA : Int):=odt;have aC : aA < (l0.length : Int):=odt;obtain ⟨aF,aD,aE⟩:=Kd.at_int aK.out aA aB aC;cases aD;replace aB:=eq_true aB;replace aC:=eq_true aC
      go_wp2
      go_ret
      exact ⟨Z22,Z34⟩
     ·rw [if_neg c5] at H
      have aH : ((rd l0 aA) == a1) = false:=beq_eq_false_iff_ne.mpr c5;have aI : ((rd l0 aA) != a1) = true:=bne_iff_ne.mpr c5;have H':=A_ H;clear H;have aB : 0 ≤ (aA : Int):=odt;have aC : aA < (l0.length : Int):=odt;obtain ⟨aF,aD,aE⟩:=Kd.at_int aK.out aA aB aC;cases aD;replace aB:=eq_true aB;replace aC:=eq_true aC
      go_wp2
      go_roundg k1
      case measure => have:=aL.out;omega
      case rel => exact ⟨(wrap64 (aA + 1)),Z22,H',⟨by have:=aL.out;omega⟩,Z34⟩
    ·rw [if_neg c4] at H
     exact absurd H (by simp)
   ·rw [if_neg c3] at H
    have aG:=df c3;clear c3;obtain rfl:=Option.some.inj H
    go_wp2
    go_ret
    exact ⟨Z22,Z34⟩
def spec_AllIn.l0 : Nat → List Int → List Int → Int → Option (Bool)
 | 0,_,_,_ => none
 | k + 1,x0,x1,x5 => if x5 < (x0.length : Int) then (if 0 ≤ x5 then ((spec_hasInt.f k x1 (rd x0 x5)).bind fun aA => (if aA = true then (spec_AllIn.l0 k x0 x1 (wrap64 (x5 + 1))) else (some false))) else (none)) else (some true)
def spec_AllIn.f (k : Nat) (l0 : List Int) (l1 : List Int) : Option (Bool):=spec_AllIn.l0 k l0 l1 0
theorem spec_AllIn.calls (k : Nat) (A0 : Option Addr) (c0 : Nat) (l0 : List Int) (A1 : Option Addr) (c1 : Nat) (l1 : List Int) (r : Bool) (w : World) (aI : Kd.C (Kd.int .i64) w A0 l0.length l0) (hc0 : l0.length ≤ c0) (hr1 : Kd.C (Kd.int .i64) w A1 l1.length l1) (aJ : l1.length ≤ c1) (h : spec_AllIn.f k l0 l1 = some r) :
  Calls Try.prog 8 #[.slice A0 l0.length c0,.slice A1 l1.length c1] w fun e w' => e = .returned (.bool r) ∧ Drawn0 w w':=by
 have aK:=A_ aI;have aQ:=A_ hc0;clear aI hc0;have aL:=A_ hr1;have aM:=A_ aJ;clear hr1 aJ;have H:=h;unfold spec_AllIn.f at H;clear h;have H':=A_ H;clear H
 go_enter Try.func8,Try.ntmps8
 go_wp2
 go_loopg [5] k (fun kq v5 w' => ∃ (aA : Int),v5 = .int .i64 aA ∧ Aside0 (spec_AllIn.l0 kq l0 l1 aA = some r) ∧ Aside0 (kq ≤ k) ∧ Drawn0 w w')
 case atStart => exact ⟨(0),Z22,H',⟨Nat.le_refl _⟩,Z34⟩
 case round =>
  clear H';obtain ⟨aA,rfl,HA,aN,⟨m1,rfl⟩⟩:=hrel
  cases gk with
  | zero => exact absurd HA.out (by simp [spec_AllIn.l0])
  | succ k1 =>
   have H:=HA.out;clear HA;simp only [spec_AllIn.l0] at H
   by_cases c3 : aA < (l0.length : Int)
   ·rw [if_pos c3] at H
    have aH:=dt c3;clear c3
    by_cases c4 : 0 ≤ aA
    ·rw [if_pos c4] at H
     have aP:=dt c4;clear c4;replace H:=bS H;obtain ⟨aG,aO,H⟩:=H
     try dsimp only at H
     have A5:=A_ aO;clear aO
     by_cases c6 : aG = true
     ·subst c6
      rw [if_pos rfl] at H;have H':=A_ H;clear H;have aB : 0 ≤ (aA : Int):=odt;have aC : aA < (l0.length : Int):=odt;obtain ⟨aF,aD,aE⟩:=Kd.at_int aK.out aA aB aC;cases aD;replace aB:=eq_true aB;replace aC:=eq_true aC
      go_wp2_with (first | ((with_reducible refine gate_callee (f:=19) rfl ?_);refine gL 17 Try.func19 #[.slice A1 l1.length c1,.int .i64 (rd l0 aA)] ?_;(with_reducible refine (spec_hasInt.calls k1 _ _ l1 (rd l0 aA) true _ ?s1 aM.out A5.out).mono ?_);(case s1 => exact Z61 aL.out);rintro e w' ⟨rfl,⟨nd,rfl⟩⟩;refine ⟨_,rfl,?_⟩))
      go_roundg k1
      case measure => have:=aN.out;omega
      case rel => exact ⟨(wrap64 (aA + 1)),Z22,H',⟨by have:=aN.out;omega⟩,Z34⟩
     ·replace c6:=Bool.eq_false_iff.mpr c6
      subst c6;rw [if_neg (show ¬ (false = true) by decide)] at H;obtain rfl:=Option.some.inj H;have aB : 0 ≤ (aA : Int):=odt;have aC : aA < (l0.length : Int):=odt;obtain ⟨aF,aD,aE⟩:=Kd.at_int aK.out aA aB aC;cases aD;replace aB:=eq_true aB;replace aC:=eq_true aC
      go_wp2_with (first | ((with_reducible refine gate_callee (f:=19) rfl ?_);refine gL 17 Try.func19 #[.slice A1 l1.length c1,.int .i64 (rd l0 aA)] ?_;(with_reducible refine (spec_hasInt.calls k1 _ _ l1 (rd l0 aA) false _ ?s1 aM.out A5.out).mono ?_);(case s1 => exact Z61 aL.out);rintro e w' ⟨rfl,⟨nd,rfl⟩⟩;refine ⟨_,rfl,?_⟩))
      go_ret
      exact ⟨Z22,Z34⟩
    ·rw [if_neg c4] at H
     exact absurd H (by simp)
   ·rw [if_neg c3] at H
    have aH:=df c3;clear c3;obtain rfl:=Option.some.inj H
    go_wp2
    go_ret
    exact ⟨Z22,Z34⟩
end Go.Proofs.Ytmgdjmeoljepgaa.PFnProgBelow
