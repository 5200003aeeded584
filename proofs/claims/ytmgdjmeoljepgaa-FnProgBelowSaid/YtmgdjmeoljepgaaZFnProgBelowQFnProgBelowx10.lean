/- Walks (lines of the print; no condition). -/
import Derived.Test.YtmgdjmeoljepgaaZFnProgBelowQFnProgBelowx2
namespace Go.Proofs.Ytmgdjmeoljepgaa.PFnProgBelow
open Go.RowKit Go.Proofs.YtmgdjmeoljepgaaW.PrintWords Go.Proofs.YtmgdjmeoljepgaaW.PrintLast Go.Proofs.YtmgdjmeoljepgaaW.PrintMore
attribute [local go_sem] max2_int min2_int max_two min_two max_three min_three max_four min_four
set_option linter.unusedVariables false
set_option linter.unusedSimpArgs false
set_option maxHeartbeats 8000000
set_option maxRecDepth 100000
mutual
def spec_sizeOf.l0 : Nat → List Int → Int → Int → Int → Int → List Int → List (List (S70)) → List (S70) → List (S76) → List (S46) → Option (Int)
 | 0,_,_,_,_,_,_,_,_,_,_ => none
 | k + 1,x1,x5,x6,aC,aB,aD,aE,aF,aG,aA => if x6 < (aA.length : Int) then (if 0 ≤ x6 then ((spec_sizeOf.f k ((rd_T46 aA x6).f0) ((rd_T46 aA x6).f1) ((rd_T46 aA x6).f2) ((rd_T46 aA x6).f3) ((rd_T46 aA x6).f4) ((rd_T46 aA x6).f5) ((rd_T46 aA x6).f6) x1).bind fun aH => (if aC = 3 then (spec_sizeOf.l0 k x1 (wrap64 (x5 + (wrap64 (aH * 4)))) (wrap64 (x6 + 1)) aC aB aD aE aF aG aA) else (spec_sizeOf.l0 k x1 (wrap64 (x5 + aH)) (wrap64 (x6 + 1)) aC aB aD aE aF aG aA))) else (none)) else (if aC = 4 then ((spec_inRange.f aB 0 (wrap64 ((x1.length : Int) - 1))).bind fun aI => (if aI = true then (if 0 ≤ aB then (if aB < (x1.length : Int) then (some (mn (wrap64 (x5 + (rd x1 aB))) 201)) else (none)) else (none)) else (some (mn x5 201)))) else (some (mn x5 201)))
def spec_sizeOf.f : Nat → Int → Int → List Int → List (List (S70)) → List (S70) → List (S76) → List (S46) → List Int → Option (Int)
 | 0,_,_,_,_,_,_,_,_ => none
 | k + 1,aJ,aK,aL,aM,aN,aO,aP,l1 => spec_sizeOf.l0 k l1 1 0 aJ aK aL aM aN aO aP
end
theorem spec_sizeOf.calls (k : Nat) : ∀ (aD : Int) (aE : Int) (bU : Option Addr) (bV : Nat) (aY : List Int) (bW : Option Addr) (bX : Nat) (aZ : List (List (S70))) (bY : Option Addr) (bZ : Nat) (a0 : List (S70)) (b0 : Option Addr) (b1 : Nat) (a2 : List (S76)) (b2 : Option Addr) (b3 : Nat) (aB : List (S46)) (A1 : Option Addr) (c1 : Nat) (l1 : List Int) (r : Int) (w : World) (b4 : Kd.C (Kd.int .i64) w bU aY.length aY) (b5 : aY.length ≤ bV) (b6 : Kd.C (Kd.slice 70 k70) w bW aZ.length aZ) (b7 : aZ.length ≤ bX) (b8 : Kd.C k70 w bY a0.length a0) (b9 : a0.length ≤ bZ) (cA : Kd.C k76 w b0 a2.length a2) (cB : a2.length ≤ b1) (cC : Kd.C k46 w b2 aB.length aB) (cD : aB.length ≤ b3) (hr1 : Kd.C (Kd.int .i64) w A1 l1.length l1) (fH : l1.length ≤ c1) (h : spec_sizeOf.f k aD aE aY aZ a0 a2 aB l1 = some r),
  Calls Try.prog 44 #[.agg #[.int .i64 aD,.int .i64 aE,.slice bU aY.length bV,.slice bW aZ.length bX,.slice bY a0.length bZ,.slice b0 a2.length b1,.slice b2 aB.length b3],.slice A1 l1.length c1] w fun e w' => e = .returned (.int .i64 r) ∧ Below w.heap.size w w':=by
 induction k using Nat.strongRecOn with
 | _ k ih =>
 intro aD aE bU bV aY bW bX aZ bY bZ a0 b0 b1 a2 b2 b3 aB A1 c1 l1 r w b4 b5 b6 b7 b8 b9 cA cB cC cD hr1 fH h
 cases k with
 | zero => exact absurd h (by simp [spec_sizeOf.f])
 | succ k =>
 simp only [spec_sizeOf.f] at h;have gU:=Try.underlying46;have gF:=A_ b4;have gG:=A_ b5;clear b4 b5;have gH:=A_ b6;have gI:=A_ b7;clear b6 b7;have gJ:=A_ b8;have gK:=A_ b9;clear b8 b9;have gM:=A_ cA;have gN:=A_ cB;clear cA cB;have cF:=A_ cC;have gO:=A_ cD;clear cC cD;have fI:=A_ hr1;have gP:=A_ fH;clear hr1 fH;have HB:=A_ (Below.refl w.heap.size w);have H:=h;unfold spec_sizeOf.f at H;clear h;have H':=A_ H;clear H
 go_enter Try.func44,Try.ntmps44
 go_wp2_with (first | ((with_reducible refine gate_dst (N:=2) rfl ?_);(try (refine gate_guard (by rfl) ?_;dsimp only));refine be (cs:=#[.int .i64 aD,.int .i64 aE,.slice bU aY.length bV,.slice bW aZ.length bX,.slice bY a0.length bZ,.slice b0 a2.length b1,.slice b2 aB.length b3]) (t:=46) ?_;intro cL hg w3 hbox hb;have aC:=A_ hbox;have cM:=A_ (gl hg (bz Z2));have aX:=cM;replace HB:=A_ (bst Z2 hb);clear hb hbox hg))
 go_loopg [5,6] k (fun kq v5 v6 w' => ∃ (aF : Int) (aA : Int),v5 = .int .i64 aF ∧ v6 = .int .i64 aA ∧ Aside0 (spec_sizeOf.l0 kq l1 aF aA aD aE aY aZ a0 a2 aB = some r) ∧ Aside0 (kq ≤ k) ∧ Aside0 (w'.heap[cL]? = some (.cells #[.int .i64 aD,.int .i64 aE,(.slice bU aY.length bV),(.slice bW aZ.length bX),(.slice bY a0.length bZ),(.slice b0 a2.length b1),(.slice b2 aB.length b3)] 46 (0,0))) ∧ Aside0 (Below w.heap.size w w'))
 case atStart => exact ⟨(1),(0),Z22,Z22,H',⟨Nat.le_refl _⟩,⟨Z1 aC.out⟩,⟨Z3 aX.out⟩⟩
 case round =>
  clear H';obtain ⟨aF,aA,rfl,rfl,HA,cK,aC,HB⟩:=hrel
  cases gk with
  | zero => exact absurd HA.out (by simp [spec_sizeOf.l0])
  | succ k1 =>
   have H:=HA.out;clear HA;simp only [spec_sizeOf.l0] at H
   by_cases c4 : aA < (aB.length : Int)
   ·rw [if_pos c4] at H
    have fJ:=dt c4;clear c4
    by_cases c5 : 0 ≤ aA
    ·rw [if_pos c5] at H
     have gV:=dt c5;clear c5;replace H:=bS H;obtain ⟨cE,gQ,H⟩:=H
     try dsimp only at H
     have A6:=A_ gQ;clear gQ
     by_cases c7 : aD = 3
     ·rw [if_pos c7] at H
      have fK:=e_t c7;have fL:=n_f c7;clear c7;have H':=A_ H;clear H;obtain ⟨fM,fN,fO,fP,fQ,fR,fS,fT,fU,fV,fW,fX,fY,fZ⟩:=C7 aC.out;have bF : 0 ≤ (aA : Int):=odt;have bG : aA < (aB.length : Int):=odt;obtain ⟨cN,bH,bI,bJ,bK,bL,bM,bN,bO,bP,bQ,cG,aG,aH,aI,aJ,aK,aL,aM,aN,aO,aP,aQ,aR,aS,aT,aU,aV,aW⟩:=at_T46 cF.out aA bF bG;cases cG;replace aG:=ZC HB.out aG;replace aH:=ZC HB.out aH;replace aI:=ZC HB.out aI;replace aJ:=ZC HB.out aJ;replace aK:=ZC HB.out aK;replace aL:=ZC HB.out aL;replace aM:=ZC HB.out aM;have a3:=A_ aO;have a4:=A_ aN;clear aO aN;have a5:=A_ aQ;have a6:=A_ aP;clear aQ aP;have a7:=A_ aS;have a8:=A_ aR;clear aS aR;have a9:=A_ aU;have bA:=A_ aT;clear aU aT;have bB:=A_ aW;have bC:=A_ aV;clear aW aV;replace bF:=eq_true bF;replace bG:=eq_true bG
      go_wp2_with (first | ((with_reducible refine gate_callee (f:=44) rfl ?_);refine gL 21 Try.func44 #[.agg #[.int .i64 ((rd_T46 aB aA).f0),.int .i64 ((rd_T46 aB aA).f1),.slice bH ((rd_T46 aB aA).f2).length bI,.slice bJ ((rd_T46 aB aA).f3).length bK,.slice bL ((rd_T46 aB aA).f4).length bM,.slice bN ((rd_T46 aB aA).f5).length bO,.slice bP ((rd_T46 aB aA).f6).length bQ],.slice A1 l1.length c1] ?_;(with_reducible refine (ih k1 (by have:=cK.out;omega) ((rd_T46 aB aA).f0) ((rd_T46 aB aA).f1) _ _ ((rd_T46 aB aA).f2) _ _ ((rd_T46 aB aA).f3) _ _ ((rd_T46 aB aA).f4) _ _ ((rd_T46 aB aA).f5) _ _ ((rd_T46 aB aA).f6) _ _ l1 cE _ ?s1 a4.out ?s3 a6.out ?s5 a8.out ?s7 bA.out ?s9 bC.out ?s11 gP.out A6.out).mono ?_);(case s1 => exact Z9 a3.out);(case s3 => exact Z9 a5.out);(case s5 => exact Z9 a7.out);(case s7 => exact Z9 a9.out);(case s9 => exact Z9 bB.out);(case s11 => exact Z9 fI.out);rintro e w9 ⟨rfl,hb⟩;refine ⟨_,rfl,?_⟩;replace aC:=A_ (bb (Z1 aC.out) hb);replace HB:=A_ (bst (Z3 aX.out) hb);(try clear hb);obtain ⟨cR,cS,cT,cU,cV,cW,cX,cY,cZ,dA,dB,dC,dD,dE⟩:=C7 aC.out))
      go_roundg k1
      case measure => have:=cK.out;omega
      case rel => exact ⟨(wrap64 (aF + (wrap64 (cE * 4)))),(wrap64 (aA + 1)),Z22,Z22,H',⟨by have:=cK.out;omega⟩,⟨Z1 aC.out⟩,⟨Z3 aX.out⟩⟩
     ·rw [if_neg c7] at H
      have fK:=e_f c7;have fL:=n_t c7;have H':=A_ H;clear H;obtain ⟨dF,dG,dH,dI,dJ,dK,dL,dM,dN,dO,dP,dQ,dR,dS⟩:=C7 aC.out;have bF : 0 ≤ (aA : Int):=odt;have bG : aA < (aB.length : Int):=odt;obtain ⟨cN,bH,bI,bJ,bK,bL,bM,bN,bO,bP,bQ,cG,aG,aH,aI,aJ,aK,aL,aM,aN,aO,aP,aQ,aR,aS,aT,aU,aV,aW⟩:=at_T46 cF.out aA bF bG;cases cG;replace aG:=ZC HB.out aG;replace aH:=ZC HB.out aH;replace aI:=ZC HB.out aI;replace aJ:=ZC HB.out aJ;replace aK:=ZC HB.out aK;replace aL:=ZC HB.out aL;replace aM:=ZC HB.out aM;have a3:=A_ aO;have a4:=A_ aN;clear aO aN;have a5:=A_ aQ;have a6:=A_ aP;clear aQ aP;have a7:=A_ aS;have a8:=A_ aR;clear aS aR;have a9:=A_ aU;have bA:=A_ aT;clear aU aT;have bB:=A_ aW;have bC:=A_ aV;clear aW aV;replace bF:=eq_true bF;replace bG:=eq_true bG
      go_wp2_with (first | ((with_reducible refine gate_callee (f:=44) rfl ?_);refine gL 21 Try.func44 #[.agg #[.int .i64 ((rd_T46 aB aA).f0),.int .i64 ((rd_T46 aB aA).f1),.slice bH ((rd_T46 aB aA).f2).length bI,.slice bJ ((rd_T46 aB aA).f3).length bK,.slice bL ((rd_T46 aB aA).f4).length bM,.slice bN ((rd_T46 aB aA).f5).length bO,.slice bP ((rd_T46 aB aA).f6).length bQ],.slice A1 l1.length c1] ?_;(with_reducible refine (ih k1 (by have:=cK.out;omega) ((rd_T46 aB aA).f0) ((rd_T46 aB aA).f1) _ _ ((rd_T46 aB aA).f2) _ _ ((rd_T46 aB aA).f3) _ _ ((rd_T46 aB aA).f4) _ _ ((rd_T46 aB aA).f5) _ _ ((rd_T46 aB aA).f6) _ _ l1 cE _ ?s1 a4.out ?s3 a6.out ?s5 a8.out ?s7 bA.out ?s9 bC.out ?s11 gP.out A6.out).mono ?_);(case s1 => exact Z9 a3.out);(case s3 => exact Z9 a5.out);(case s5 => exact Z9 a7.out);(case s7 => exact Z9 a9.out);(case s9 => exact Z9 bB.out);(case s11 => exact Z9 fI.out);rintro e gW ⟨rfl,hb⟩;refine ⟨_,rfl,?_⟩;replace aC:=A_ (bb (Z1 aC.out) hb);replace HB:=A_ (bst (Z3 aX.out) hb);(try clear hb);obtain ⟨dT,dU,dV,dW,dX,dY,dZ,d0,d1,d2,d3,d4,d5,d6⟩:=C7 aC.out))
      go_roundg k1
      case measure => have:=cK.out;omega
      case rel => exact ⟨(wrap64 (aF + cE)),(wrap64 (aA + 1)),Z22,Z22,H',⟨by have:=cK.out;omega⟩,⟨Z1 aC.out⟩,⟨Z3 aX.out⟩⟩
    ·rw [if_neg c5] at H
     exact absurd H (by simp)
   ·rw [if_neg c4] at H
    have fJ:=df c4;clear c4
    by_cases cH : aD = 4
    ·rw [if_pos cH] at H
     have cO:=e_t cH;have cP:=n_f cH;clear cH;replace H:=bS H;obtain ⟨f7,cQ,H⟩:=H
     try dsimp only at H
     have d7:=A_ cQ;clear cQ
     by_cases d8 : f7 = true
     ·subst d8
      rw [if_pos rfl] at H
      by_cases d9 : 0 ≤ aE
      ·rw [if_pos d9] at H
       have gR:=dt d9;clear d9
       by_cases eA : aE < (l1.length : Int)
       ·rw [if_pos eA] at H
        have gS:=dt eA;clear eA;obtain ⟨f8,bD⟩ : ∃ j_ : Int,(mn (wrap64 (aF + (rd l1 aE))) 201) = j_:=⟨_,rfl⟩
        first | rw [bD] at H | simp only [bD] at H
        (try rw [bD] at d7);have f9 : (if 201 < (wrap64 (aF + (rd l1 aE))) then 201 else (wrap64 (aF + (rd l1 aE)))) = f8:=bD;obtain rfl:=Option.some.inj H;obtain ⟨eB,eC,eD,eE,eF,eG,eH,eI,eJ,eK,eL,eM,eN,eO⟩:=C7 aC.out
        go_wp2_with (first | (go_at_call 17;(with_reducible refine (spec_inRange.calls aE 0 (wrap64 ((l1.length : Int) - 1)) true _ d7.out).mono ?_);rintro e w' ⟨rfl,⟨nd,rfl⟩⟩;have cI : 0 ≤ (aE : Int):=odt;have cJ : aE < (l1.length : Int):=odt;obtain ⟨gT,gA,bR⟩:=Kd.at_int fI.out aE cI cJ;cases gA;replace bR:=ZC HB.out bR;replace cI:=eq_true cI;replace cJ:=eq_true cJ))
        go_ret
        exact ⟨by first | rfl | (simp [errW_none,errW_some] <;> rfl) | (simp only [← bD];first | rfl | (simp [errW_none,errW_some] <;> rfl)) | (simp [*,errW_none,errW_some] <;> rfl),Z3 aX.out⟩
       ·rw [if_neg eA] at H
        exact absurd H (by simp)
      ·rw [if_neg d9] at H
       exact absurd H (by simp)
     ·replace d8:=Bool.eq_false_iff.mpr d8
      subst d8;rw [if_neg (show ¬ (false = true) by decide)] at H;obtain ⟨gB,bE⟩ : ∃ j_ : Int,(mn aF 201) = j_:=⟨_,rfl⟩
      first | rw [bE] at H | simp only [bE] at H
      (try rw [bE] at d7);have gC : (if 201 < aF then 201 else aF) = gB:=bE;obtain rfl:=Option.some.inj H;obtain ⟨eP,eQ,eR,eS,eT,eU,eV,eW,eX,eY,eZ,e0,e1,e2⟩:=C7 aC.out
      go_wp2_with (first | (go_at_call 17;(with_reducible refine (spec_inRange.calls aE 0 (wrap64 ((l1.length : Int) - 1)) false _ d7.out).mono ?_);rintro e w' ⟨rfl,⟨nd,rfl⟩⟩))
      go_ret
      exact ⟨by first | rfl | (simp [errW_none,errW_some] <;> rfl) | (simp only [← bE];first | rfl | (simp [errW_none,errW_some] <;> rfl)) | (simp [*,errW_none,errW_some] <;> rfl),Z3 aX.out⟩
    ·rw [if_neg cH] at H
     have cO:=e_f cH;have cP:=n_t cH;obtain ⟨gD,bT⟩ : ∃ j_ : Int,(mn aF 201) = j_:=⟨_,rfl⟩
     first | rw [bT] at H | simp only [bT] at H
     have gE : (if 201 < aF then 201 else aF) = gD:=bT;obtain rfl:=Option.some.inj H;obtain ⟨e3,e4,e5,e6,e7,e8,e9,fA,fB,fC,fD,fE,fF,fG⟩:=C7 aC.out
     go_wp2
     go_ret
     exact ⟨by first | rfl | (simp [errW_none,errW_some] <;> rfl) | (simp only [← bT];first | rfl | (simp [errW_none,errW_some] <;> rfl)) | (simp [*,errW_none,errW_some] <;> rfl),Z3 aX.out⟩
def spec_sizes.l0 : Nat → List (S48) → List Int → Int → Option (List Int)
 | 0,_,_,_ => none
 | k + 1,x0,x3,x4 => if x4 ≥ 0 then (if 0 ≤ x4 then (if x4 < (x0.length : Int) then ((spec_sizeOf.f k ((rd_T48 x0 x4).f3.f0) ((rd_T48 x0 x4).f3.f1) ((rd_T48 x0 x4).f3.f2) ((rd_T48 x0 x4).f3.f3) ((rd_T48 x0 x4).f3.f4) ((rd_T48 x0 x4).f3.f5) ((rd_T48 x0 x4).f3.f6) x3).bind fun aA => (if x4 < (x3.length : Int) then (spec_sizes.l0 k x0 (x3.set (x4 : Int).toNat aA) (wrap64 (x4 - 1))) else (none))) else (none)) else (none)) else (some x3)
def spec_sizes.f (k : Nat) (l0 : List (S48)) : Option (List Int):=if 0 ≤ (l0.length : Int) then (if ((l0.length : Int) : Int).toNat ≤ 35184372088832 then (spec_sizes.l0 k l0 (List.replicate ((l0.length : Int) : Int).toNat 0) (wrap64 ((l0.length : Int) - 1))) else (none)) else (none)
theorem spec_sizes.calls (k : Nat) (A0 : Option Addr) (c0 : Nat) (l0 : List (S48)) (r : List Int) (w : World) (cS : Kd.C k48 w A0 l0.length l0) (hc0 : l0.length ≤ c0) (h : spec_sizes.f k l0 = some r) :
  Calls Try.prog 30 #[.slice A0 l0.length c0] w fun e w' => ∃ cT : Value,e = .returned (cT) ∧ Kd.R (Kd.int .i64) 3 w' w.heap.size (fun _ => True) cT r ∧ Below w.heap.size w w':=by
 have dB:=Try.underlying46;have dC:=A_ cS;have dI:=A_ hc0;clear cS hc0;have HB:=A_ (Below.refl w.heap.size w);have H:=h;unfold spec_sizes.f at H;clear h
 by_cases c2 : 0 ≤ (l0.length : Int)
 ·rw [if_pos c2] at H
  have b7:=eq_true c2;have b8:=dt c2;clear c2
  by_cases c3 : ((l0.length : Int) : Int).toNat ≤ 35184372088832
  ·rw [if_pos c3] at H
   have b9:=eq_true c3;have cA:=dt c3;clear c3;obtain ⟨cB,aD⟩ : ∃ y_ : List Int,y_ = (List.replicate ((l0.length : Int) : Int).toNat 0):=⟨_,rfl⟩
   first | rw [← aD,Option.bind_some] at H | rw [← aD] at H
   have bF:=A_ aD;clear aD;have H':=A_ H;clear H
   go_enter Try.func30,Try.ntmps30
   go_wp2_with (first | ((with_reducible refine gate_dst (N:=7) rfl ?_);refine Kd.R_make (Kd.int .i64) _ 3 rfl (N:=7) rfl 26 _ _ rfl (l0.length : Int) rfl rfl Try.underlying26 (.int .i64 0) 8 info3 rfl (by decide) (by omega) 0 (ok:=fun _ => True) (okp:=fun _ => True) rfl (fun _ hk => hk) trivial (odt) (Nat.le_trans (Nat.mul_le_mul_right _ (odt : (l0.length : Int).toNat ≤ 35184372088832)) (by omega)) (Below.refl _ _) (Nat.le_refl _) ?_;intro cC w4 bV hb hg_ hnew_;clear hg_ hnew_;(first | rw [← bF.out] at bV | (simp only [Int.reduceToNat] at bV;rw [← bF.out] at bV));have bW:=A_ (Kd.R_lower bV (bz Z2));replace HB:=A_ (bst Z2 hb);clear hb bV))
   go_loopg [4] k (fun kq v4 w' => ∃ (aC : List Int) (aA : Int),v4 = .int .i64 aA ∧ Aside0 (spec_sizes.l0 kq l0 aC aA = some r) ∧ Aside0 (kq ≤ k) ∧ Aside0 (Kd.R (Kd.int .i64) 3 w' w.heap.size (fun _ => True) cC aC) ∧ Aside0 (Below w.heap.size w w'))
   case atStart => exact ⟨(cB),(wrap64 ((l0.length : Int) - 1)),Z22,H',⟨Nat.le_refl _⟩,⟨Z17 bW.out⟩,⟨Z2⟩⟩
   case round =>
    clear H' b7 b8 b9 cA;obtain ⟨aC,aA,rfl,HA,cU,aB,HB⟩:=hrel
    cases gk with
    | zero => exact absurd HA.out (by simp [spec_sizes.l0])
    | succ k1 =>
     have H:=HA.out;clear HA;simp only [spec_sizes.l0] at H
     by_cases c6 : aA ≥ 0
     ·rw [if_pos c6] at H
      have cD : decide (0 ≤ aA) = true:=dt c6;clear c6
      by_cases c7 : 0 ≤ aA
      ·rw [if_pos c7] at H
       have dD:=dt c7;clear c7
       by_cases c8 : aA < (l0.length : Int)
       ·rw [if_pos c8] at H
        have dE:=dt c8;clear c8;replace H:=bS H;obtain ⟨a4,cV,H⟩:=H
        try dsimp only at H
        have A9:=A_ cV;clear cV
        by_cases c10 : aA < (aC.length : Int)
        ·rw [if_pos c10] at H
         have cW:=dt c10;clear c10;obtain ⟨bX,aE⟩ : ∃ y_ : List Int,y_ = (aC.set (aA : Int).toNat a4):=⟨_,rfl⟩
         first | rw [← aE,Option.bind_some] at H | rw [← aE] at H
         have bY:=A_ aE;clear aE;have H':=A_ H;clear H;have bG : 0 ≤ (aA : Int):=odt;have bH : aA < (l0.length : Int):=odt;obtain ⟨cX,cE,cF,cG,cH,bI,bJ,bK,bL,bM,bN,bO,bP,bQ,bR,cI,aF,aG,aH,aI,aJ,aK,aL,aM,aN,aO,aP,aQ,aR,aS,aT,aU,aV,aW,aX,aY,aZ,a0,a2,a3⟩:=at_T48 dC.out aA bG bH;cases cI;replace aF:=ZC HB.out aF;replace aG:=ZC HB.out aG;replace aH:=ZC HB.out aH;replace aI:=ZC HB.out aI;replace aJ:=ZC HB.out aJ;replace aK:=ZC HB.out aK;replace aL:=ZC HB.out aL;replace aM:=ZC HB.out aM;replace aN:=ZC HB.out aN;replace aO:=ZC HB.out aO;have b3:=A_ aQ;have b4:=A_ aP;clear aQ aP;have b5:=A_ aS;have b6:=A_ aR;clear aS aR;have a5:=A_ aU;have a6:=A_ aT;clear aU aT;have a7:=A_ aW;have a8:=A_ aV;clear aW aV;have a9:=A_ aY;have bA:=A_ aX;clear aY aX;have bB:=A_ a0;have bC:=A_ aZ;clear a0 aZ;have bD:=A_ a3;have bE:=A_ a2;clear a3 a2;replace bG:=eq_true bG
         replace bH:=eq_true bH;obtain ⟨cJ,bZ,cK⟩:=Kd.R_slice aB.out;subst cK
         go_wp2_with (first | ((with_reducible refine gate_callee (f:=44) rfl ?_);refine gL 23 Try.func44 #[.agg #[.int .i64 ((rd_T48 l0 aA).f3.f0),.int .i64 ((rd_T48 l0 aA).f3.f1),.slice bI ((rd_T48 l0 aA).f3.f2).length bJ,.slice bK ((rd_T48 l0 aA).f3.f3).length bL,.slice bM ((rd_T48 l0 aA).f3.f4).length bN,.slice bO ((rd_T48 l0 aA).f3.f5).length bP,.slice bQ ((rd_T48 l0 aA).f3.f6).length bR],.slice cJ aC.length bZ] ?_;(with_reducible refine (spec_sizeOf.calls k1 ((rd_T48 l0 aA).f3.f0) ((rd_T48 l0 aA).f3.f1) _ _ ((rd_T48 l0 aA).f3.f2) _ _ ((rd_T48 l0 aA).f3.f3) _ _ ((rd_T48 l0 aA).f3.f4) _ _ ((rd_T48 l0 aA).f3.f5) _ _ ((rd_T48 l0 aA).f3.f6) _ _ aC a4 _ ?s1 a6.out ?s3 a8.out ?s5 bA.out ?s7 bC.out ?s9 bE.out ?s11 ?s12 A9.out).mono ?_);(case s1 => exact Z9 a5.out);(case s3 => exact Z9 a7.out);(case s5 => exact Z9 a9.out);(case s7 => exact Z9 bB.out);(case s9 => exact Z9 bD.out);(case s11 => exact Z32 aB.out);(case s12 => exact (Kd.R_reads' aB.out).2.1);rintro e cY ⟨rfl,hb⟩;refine ⟨_,rfl,?_⟩;replace aB:=A_ (Kd.R_below (Z17 aB.out) hb);replace HB:=A_ (bst Z2 hb);(try clear hb);have cL : 0 ≤ (aA : Int):=odt;have cM : (aA : Int) < ((aC.length : Int) : Int):=odt;obtain ⟨bT,dF,b0,b1,cN,dG,b2⟩:=Kd.R_form aB.out (by omega);(first | cases b0 | (injection b0 with ea_ en_ ec_;(first | subst ea_ | (injection ea_ with ea_;subst ea_));subst ec_;clear en_));have cO:=A_ b1;have dH:=A_ b2;clear b1 cN b2;obtain ⟨cP,cQ⟩:=Kd.R_celln 0 aB.out (aA : Int) cL cM;replace cL:=eq_true cL;replace cM:=eq_true cM;obtain ⟨cZ,dA⟩:=Kd.R_celln 0 aB.out (aA : Int) (odt) (odt);have bU:=Kd.R_putg aB.out (aA : Int) a4) | ((with_reducible refine gate_store (t:=3) (p:=24) rfl ?_);refine store_event (t:=3) (p:=24) (v:=?vo_w15) (w1:=(cY.setCell ⟨bT,(aA : Int).toNat,none⟩ (.int .i64 a4))) ?hg ?ho ?hn ?hr ?_;(case ho => rfl);(case hg => rfl);(case hn => rfl);(case hr => exact Z51);intro cR hw;have hg : cY.grownBy cR (some bT):=(by rw [hw];exact bU.2);have hp_ : Kd.R (Kd.int .i64) 3 cR w.heap.size (fun _ => True) (.slice (some ⟨bT,0,none⟩) aC.length bZ) bX:=(by rw [hw,bY.out];exact bU.1);clear bU;replace aB:=A_ hp_;replace HB:=A_ ((by rw [hw];exact below_set (HB.out) cO.out : Below w.heap.size w cR));clear hg hw hp_))
         go_roundg k1
         case measure => have:=cU.out;omega
         case rel => exact ⟨(bX),(wrap64 (aA - 1)),Z22,H',⟨by have:=cU.out;omega⟩,⟨Z17 aB.out⟩,⟨Z2⟩⟩
        ·rw [if_neg c10] at H
         exact absurd H (by simp)
       ·rw [if_neg c8] at H
        exact absurd H (by simp)
      ·rw [if_neg c7] at H
       exact absurd H (by simp)
     ·rw [if_neg c6] at H
      have cD : decide (0 ≤ aA) = false:=df c6;clear c6;obtain rfl:=Option.some.inj H
      go_wp2
      go_ret
      exact ⟨_,Z12,Z17 aB.out,Z2⟩
  ·rw [if_neg c3] at H
   exact absurd H (by simp)
 ·rw [if_neg c2] at H
  exact absurd H (by simp)
end Go.Proofs.Ytmgdjmeoljepgaa.PFnProgBelow
