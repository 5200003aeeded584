/- Walks (lines of the print; no condition). -/
import Derived.Test.YtmgdjmeoljepgaaZFnProgBelowQFnProgBelowx21b
namespace Go.Proofs.Ytmgdjmeoljepgaa.PFnProgBelow
open Go.RowKit Go.Proofs.YtmgdjmeoljepgaaW.PrintWords Go.Proofs.YtmgdjmeoljepgaaW.PrintLast Go.Proofs.YtmgdjmeoljepgaaW.PrintMore
attribute [local go_sem] max2_int min2_int max_two min_two max_three min_three max_four min_four
set_option linter.unusedVariables false
set_option linter.unusedSimpArgs false
set_option maxHeartbeats 8000000 in
set_option maxRecDepth 100000 in
theorem impl_tmplOk.b : impl_tmplOk.S2.1:=by
 intro c0 l0 a1 aI aO a9 bA aL bB bC aX bD bE aS b6 bF l2_5 bK bG aK a3 a4 r w k ih GY GZ G0 FB d2 FC mV mW k0 k1 b9 FD k2 FE Q0_ aJ HP gP GE954 e1 A955_1 c955_1 A955_2 c955_2 A955_5 c955_5 A955_6 c955_6 A955_7 c955_7 A955_8 c955_8 aT aU mU e2 e3 e4 e5 e6 e7 e8 e9 fA fB fC fD fE fF aF HQ _ gQ GE956 _ aD aG _ FH FI CR a5 gR bH lS F4 F5 K2_ a2_ wc u10 u12 u13 u14 u15 u16 u17 u18 _ _ _ _ _ _ _ _ _ _ _ _ _ _ _ _ _ _ _ _ _ _ _ _ _ _ _ _ _ _ _ _ _ _ _ _ _ _ _ _ _ _ _ _ _ _ _ _ _ _ _ _ _ _ _ _ _ _ _ _ _ _ _ _ _ _ _ _ _ _ _ _ _ _ _ _ _ _ _ _ _ _ _ _ _ _ _ _ _ _ _ _ _ _ _ _ _ _ _ _ _ _ _ _ _ _ _ _ _ _ _ _ _ _ _ _ _ _ _ _ _ _ _ _ _ _ _ _ _ _ _ _ _ _ _ _ _ _ _ _ _ _ _ _ _ _ _ _ _ _ _ _ _ _ _ _ _ _ _ _ _ _ _ _ _ _ _ _ _ _ _ _ _ _ _ _ _ _ _ _ _ _ _ _ _ _ _ _ _ _ _ _ _ _ _ _ _ _ _ _ _ _ _ _ _ _ _ _ _ _ _ hcut
 clear lS;obtain ⟨kq,bR,dJ,dK,rfl,rfl,rfl,HA,d8,aB,aA,HB⟩:=hcut
 cases kq with
 | zero => exact absurd HA.out (by simp [impl_tmplOk.j4])
 | succ sQ =>
  have H:=HA.out;clear HA;simp only [impl_tmplOk.j4] at H;have gX:=A_ H;clear H
  go_upto_region 42 with (fail)
  go_cut [214] (fun EM wc => ∃ (kq : Nat) (cP : Bool),EM = .bool cP ∧ Aside0 (impl_tmplOk.j5 kq l0 a1 a3 a4 cP aI aO aL aX aS l2_5 aK = some r) ∧ Aside0 (kq ≤ sQ) ∧ Aside0 (wc.heap[aJ]? = some (.cells #[.int .i64 aI,.int .i64 aO,(.slice a9 aL.length bA),(.slice bB aX.length bC),(.slice bD aS.length bE),(.slice b6 l2_5.length bF),(.slice bK aK.length bG)] 46 (0,0))) ∧ Aside0 (wc.heap[aF]? = some (.cells #[.int .i64 ((rd_T48 l0 a1).f0),(.slice A955_1 ((rd_T48 l0 a1).f1).length c955_1),(.slice A955_2 ((rd_T48 l0 a1).f2).length c955_2),.int .i64 ((rd_T48 l0 a1).f3.f0),.int .i64 ((rd_T48 l0 a1).f3.f1),(.slice A955_5 ((rd_T48 l0 a1).f3.f2).length c955_5),(.slice A955_6 ((rd_T48 l0 a1).f3.f3).length c955_6),(.slice A955_7 ((rd_T48 l0 a1).f3.f4).length c955_7),(.slice A955_8 ((rd_T48 l0 a1).f3.f5).length c955_8),(.slice aT ((rd_T48 l0 a1).f3.f6).length aU)] 48 (0,0))) ∧ Aside0 (Below w.heap.size w wc))
  case first =>
   have H:=gX.out;clear gX
   by_cases eX : (aX.length : Int) = bR
   ·rw [if_pos eX] at H
    have dO : ((aX.length : Int) == bR) = true:=beq_iff_eq.mpr eX;have mI : ((aX.length : Int) != bR) = false:=bne_eq_false_iff_eq.mpr eX;clear eX;(first | rw [dO] | (simp only [i64_w,i32_w];rw [dO]) | skip);replace H:=bS H;obtain ⟨EN,lF,H⟩:=H
    try dsimp only at H
    have sR:=A_ lF;clear lF
    by_cases kV : EN = true
    ·subst kV
     rw [if_pos rfl] at H;replace H:=bS H;obtain ⟨sS,lG,H⟩:=H
     try dsimp only at H
     have EO:=A_ lG;clear lG;have H':=A_ H;clear H;have EP:=aD.out;have EQ:=aG.out;obtain ⟨sT,sU,sV,sW,sX,sY,sZ,tA,tB,tC,tD,tE,tF,tG⟩:=C7 aB.out
     go_wp2_with (first | (go_at_call 14;(with_reducible refine (impl_within.calls (aK.length : Int) dJ dK true _ sR.out).mono ?_);rintro e w' ⟨rfl,⟨nd,rfl⟩⟩;obtain ⟨tH,tI,tJ,tK,tL,tM,tN,tO,tP,tQ,tR,tS,tT,tV,tW,tX,tY,tZ,t0,t1⟩:=C10 aA.out) | (go_at_call 38;(with_reducible refine (impl_formsOk.calls sQ ((rd_T48 l0 a1).f0) _ _ ((rd_T48 l0 a1).f1) _ _ ((rd_T48 l0 a1).f2) ((rd_T48 l0 a1).f3.f0) ((rd_T48 l0 a1).f3.f1) _ _ ((rd_T48 l0 a1).f3.f2) _ _ ((rd_T48 l0 a1).f3.f3) _ _ ((rd_T48 l0 a1).f3.f4) _ _ ((rd_T48 l0 a1).f3.f5) _ _ ((rd_T48 l0 a1).f3.f6) _ _ aX a4 sS _ ?s1 e3.out ?s3 e5.out ?s5 e7.out ?s7 e9.out ?s9 fB.out ?s11 fD.out ?s13 fF.out ?s15 mW.out EO.out).mono ?_);(case s1 => repeat (first | exact (Kd.C_below e2.out (Z8 GE954.out GE956.out)) | (with_reducible refine Kd.C_alloc ?_ _) | (with_reducible refine Kd.C_drewN ?_ _) | (with_reducible refine Kd.C_drew ?_)));(case s3 => repeat (first | exact (Kd.C_below e4.out (Z8 GE954.out GE956.out)) | (with_reducible refine Kd.C_alloc ?_ _) | (with_reducible refine Kd.C_drewN ?_ _) | (with_reducible refine Kd.C_drew ?_)));(case s5 => repeat (first | exact (Kd.C_below e6.out (Z8 GE954.out GE956.out)) | (with_reducible refine Kd.C_alloc ?_ _) | (with_reducible refine Kd.C_drewN ?_ _) | (with_reducible refine Kd.C_drew ?_)));(case s7 => repeat (first | exact (Kd.C_below e8.out (Z8 GE954.out GE956.out)) | (with_reducible refine Kd.C_alloc ?_ _) | (with_reducible refine Kd.C_drewN ?_ _) | (with_reducible refine Kd.C_drew ?_)));(case s9 => repeat (first | exact (Kd.C_below fA.out (Z8 GE954.out GE956.out)) | (with_reducible refine Kd.C_alloc ?_ _) | (with_reducible refine Kd.C_drewN ?_ _) | (with_reducible refine Kd.C_drew ?_)));(case s11 => repeat (first | exact (Kd.C_below fC.out (Z8 GE954.out GE956.out)) | (with_reducible refine Kd.C_alloc ?_ _) | (with_reducible refine Kd.C_drewN ?_ _) | (with_reducible refine Kd.C_drew ?_)));(case s13 => repeat (first | exact (Kd.C_below fE.out (Z8 GE954.out GE956.out)) | (with_reducible refine Kd.C_alloc ?_ _) | (with_reducible refine Kd.C_drewN ?_ _) | (with_reducible refine Kd.C_drew ?_)));(case s15 => repeat (first | exact (Kd.C_below mV.out (Z8 GE954.out GE956.out)) | (with_reducible refine Kd.C_alloc ?_ _) | (with_reducible refine Kd.C_drewN ?_ _) | (with_reducible refine Kd.C_drew ?_)));rintro e HH ⟨rfl,hb⟩;replace aB:=A_ (bB_ aB.out hb);replace aA:=A_ (bB_ aA.out hb);replace HB:=A_ (bst (Z8 GE954.out GE956.out) hb);(try clear hb)))
     go_meet
     case rel => exact ⟨_,(!sS),Z22,H',⟨by have:=a5.out;have:=bH.out;have:=d8.out;first | omega | exact Nat.le_refl _⟩,⟨Z1 aB.out⟩,⟨Z1 aA.out⟩,⟨Z8 GE954.out GE956.out⟩⟩
    ·replace kV:=Bool.eq_false_iff.mpr kV
     subst kV;rw [if_neg (show ¬ (false = true) by decide)] at H;have H':=A_ H;clear H;have ER:=aD.out;have ES:=aG.out;obtain ⟨t2,t3,t4,t5,t6,t7,t8,t9,uA,uB,uC,uD,uE,uF⟩:=C7 aB.out
     go_wp2_with (first | (go_at_call 14;(with_reducible refine (impl_within.calls (aK.length : Int) dJ dK false _ sR.out).mono ?_);rintro e w' ⟨rfl,⟨nd,rfl⟩⟩))
     go_meet
     case rel => exact ⟨_,(true),Z22,H',⟨by have:=a5.out;have:=bH.out;have:=d8.out;first | omega | exact Nat.le_refl _⟩,⟨Z1 aB.out⟩,⟨Z1 aA.out⟩,⟨Z8 GE954.out GE956.out⟩⟩
   ·rw [if_neg eX] at H
    have dO : ((aX.length : Int) == bR) = false:=beq_eq_false_iff_ne.mpr eX;have mI : ((aX.length : Int) != bR) = true:=bne_iff_ne.mpr eX;(first | rw [dO] | (simp only [i64_w,i32_w];rw [dO]) | skip);have H':=A_ H;clear H;have ET:=aD.out;have EU:=aG.out;obtain ⟨uG,uH,uI,uJ,uK,uL,uM,uN,uO,uP,uQ,uR,uS,uT⟩:=C7 aB.out
    go_wp2
    go_meet
    case rel => exact ⟨_,(true),Z22,H',⟨by have:=a5.out;have:=bH.out;have:=d8.out;first | omega | exact Nat.le_refl _⟩,⟨Z1 aB.out⟩,⟨Z1 aA.out⟩,⟨Z8 GE954.out GE956.out⟩⟩
  case rest =>
   clear gX;obtain ⟨kq,cP,rfl,HA,d5,aB,aA,HB⟩:=hcut
   cases kq with
   | zero => exact absurd HA.out (by simp [impl_tmplOk.j5])
   | succ uU =>
    have H:=HA.out;clear HA;simp only [impl_tmplOk.j5] at H
    by_cases kW : cP = true
    ·subst kW
     rw [if_pos rfl] at H;obtain rfl:=Option.some.inj H
     go_wp2
     go_ret
     exact ⟨Z12,Z8 GE954.out GE956.out⟩
    ·replace kW:=Bool.eq_false_iff.mpr kW
     subst kW;rw [if_neg (show ¬ (false = true) by decide)] at H;have gY:=A_ H;clear H;have EV:=aD.out;have EW:=aG.out;obtain ⟨gZ,hD,hI,hJ,hL,hO,hU,hV,hX,hY,hZ,iA,iB,iC⟩:=C7 aB.out
     go_upto_if 217 with (fail)
     go_cut [4] (fun v4 wc => ∃ (kq : Nat) (bU : Int),v4 = .int .i64 bU ∧ Aside0 (impl_tmplOk.j6 kq l0 a1 a3 bU aI aO aL aX aS l2_5 aK = some r) ∧ Aside0 (kq ≤ uU) ∧ Aside0 (wc.heap[aJ]? = some (.cells #[.int .i64 aI,.int .i64 aO,(.slice a9 aL.length bA),(.slice bB aX.length bC),(.slice bD aS.length bE),(.slice b6 l2_5.length bF),(.slice bK aK.length bG)] 46 (0,0))) ∧ Aside0 (wc.heap[aF]? = some (.cells #[.int .i64 ((rd_T48 l0 a1).f0),(.slice A955_1 ((rd_T48 l0 a1).f1).length c955_1),(.slice A955_2 ((rd_T48 l0 a1).f2).length c955_2),.int .i64 ((rd_T48 l0 a1).f3.f0),.int .i64 ((rd_T48 l0 a1).f3.f1),(.slice A955_5 ((rd_T48 l0 a1).f3.f2).length c955_5),(.slice A955_6 ((rd_T48 l0 a1).f3.f3).length c955_6),(.slice A955_7 ((rd_T48 l0 a1).f3.f4).length c955_7),(.slice A955_8 ((rd_T48 l0 a1).f3.f5).length c955_8),(.slice aT ((rd_T48 l0 a1).f3.f6).length aU)] 48 (0,0))) ∧ Aside0 (Below w.heap.size w wc))
     case first =>
      have H:=gY.out;clear gY
      by_cases eY : aI = 3
      ·rw [if_pos eY] at H
       have dP:=e_t eY;have mJ:=n_f eY;clear eY;(first | rw [dP] | (simp only [i64_w,i32_w];rw [dP]) | skip);have H':=A_ H;clear H
       go_wp2
       go_meet
       case rel => exact ⟨_,(wrap64 (a4 + 1)),Z22,H',⟨by have:=a5.out;have:=bH.out;have:=d8.out;have:=d5.out;first | omega | exact Nat.le_refl _⟩,⟨Z1 aB.out⟩,⟨Z1 aA.out⟩,⟨Z8 GE954.out GE956.out⟩⟩
      ·rw [if_neg eY] at H
       have dP:=e_f eY;have mJ:=n_t eY;(first | rw [dP] | (simp only [i64_w,i32_w];rw [dP]) | skip);have H':=A_ H;clear H
       go_wp2
       go_meet
       case rel => exact ⟨_,(a4),Z22,H',⟨by have:=a5.out;have:=bH.out;have:=d8.out;have:=d5.out;first | omega | exact Nat.le_refl _⟩,⟨Z1 aB.out⟩,⟨Z1 aA.out⟩,⟨Z8 GE954.out GE956.out⟩⟩
     case rest =>
      clear gY gZ hD hI hJ hL hO hU hV hX hY hZ iA iB iC;obtain ⟨kq,bU,rfl,HA,gB,aB,aA,HB⟩:=hcut
      cases kq with
      | zero => exact absurd HA.out (by simp [impl_tmplOk.j6])
      | succ lH =>
       have H:=HA.out;clear HA;simp only [impl_tmplOk.j6] at H;have H':=A_ H;clear H;have EX:=aD.out;have EY:=aG.out;obtain ⟨iD,iE,iF,iG,iH,iI,iJ,iK,iL,iM,iN,iO,iP,iQ⟩:=C7 aB.out
       go_wp2
       go_loopg [223] lH (fun kq EZ w' => ∃ (aH : Int),EZ = .int .i64 aH ∧ Aside0 (impl_tmplOk.l2 kq l0 a1 a3 bU aK (aK.length : Int) aH = some r) ∧ Aside0 (kq ≤ lH) ∧ Aside0 (w'.heap[aJ]? = some (.cells #[.int .i64 aI,.int .i64 aO,(.slice a9 aL.length bA),(.slice bB aX.length bC),(.slice bD aS.length bE),(.slice b6 l2_5.length bF),(.slice bK aK.length bG)] 46 (0,0))) ∧ Aside0 (w'.heap[aF]? = some (.cells #[.int .i64 ((rd_T48 l0 a1).f0),(.slice A955_1 ((rd_T48 l0 a1).f1).length c955_1),(.slice A955_2 ((rd_T48 l0 a1).f2).length c955_2),.int .i64 ((rd_T48 l0 a1).f3.f0),.int .i64 ((rd_T48 l0 a1).f3.f1),(.slice A955_5 ((rd_T48 l0 a1).f3.f2).length c955_5),(.slice A955_6 ((rd_T48 l0 a1).f3.f3).length c955_6),(.slice A955_7 ((rd_T48 l0 a1).f3.f4).length c955_7),(.slice A955_8 ((rd_T48 l0 a1).f3.f5).length c955_8),(.slice aT ((rd_T48 l0 a1).f3.f6).length aU)] 48 (0,0))) ∧ Aside0 (Below w.heap.size w w'))
       case atStart => exact ⟨(0),Z22,H',⟨Nat.le_refl _⟩,⟨Z1 aB.out⟩,⟨Z1 aA.out⟩,⟨Z8 GE954.out GE956.out⟩⟩
       case round =>
        clear H' iD iE iF iG iH iI iJ iK iL iM iN iO iP iQ;obtain ⟨aH,rfl,HA,CN,aB,aA,HB⟩:=hrel
        cases gk with
        | zero => exact absurd HA.out (by simp [impl_tmplOk.l2])
        | succ k6 =>
         have H:=HA.out;clear HA;simp only [impl_tmplOk.l2] at H
         by_cases gD : aH < (aK.length : Int)
         ·rw [if_pos gD] at H
          have mK:=dt gD;clear gD
          by_cases kX : 0 ≤ aH
          ·rw [if_pos kX] at H
           have E0:=dt kX;clear kX
           by_cases kY : aH < (aK.length : Int)
           ·rw [if_pos kY] at H
            have E1:=dt kY;clear kY;replace H:=bS H;obtain ⟨E2,lI,H⟩:=H
            try dsimp only at H
            have uV:=A_ lI;clear lI
            by_cases kZ : E2 = true
            ·subst kZ
             rw [if_pos rfl] at H;have H':=A_ H;clear H;have eZ : 0 ≤ (aH : Int):=odt;have e0 : aH < (aK.length : Int):=odt;obtain ⟨iR,dQ,dR,dS,dT,dU,dV,dW,dX,dY,dZ,mL,cQ,cR,cS,cT,cU,cV,cW,cX,cY,cZ,dA,dB,dC,dD,dE,dF,dG⟩:=at_T46 k2.out aH eZ e0;cases mL;replace cQ:=ZC HB.out cQ;replace cR:=ZC HB.out cR;replace cS:=ZC HB.out cS;replace cT:=ZC HB.out cT;replace cU:=ZC HB.out cU;replace cV:=ZC HB.out cV;replace cW:=ZC HB.out cW;have d9:=A_ cY;have eA:=A_ cX;clear cY cX;have eB:=A_ dA;have eC:=A_ cZ;clear dA cZ;have eD:=A_ dC;have eE:=A_ dB;clear dC dB;have eF:=A_ dE;have eG:=A_ dD;clear dE dD;have eH:=A_ dG;have eI:=A_ dF;clear dG dF;replace eZ:=eq_true eZ;replace e0:=eq_true e0
             go_wp2_with (first | ((with_reducible refine gate_dst (N:=20) rfl ?_);(try (refine gate_guard (by rfl) ?_;dsimp only));refine be (cs:=#[.int .i64 0,.int .i64 0,.slice none 0 0,.slice none 0 0,.slice none 0 0,.slice none 0 0,.slice none 0 0]) (t:=46) ?_;intro bV hg HI hbox hb;have d0:=A_ hbox;have iS:=A_ (gl hg (bz (Z8 GE954.out GE956.out)));have GE974:=iS;replace HB:=A_ (bst (Z8 GE954.out GE956.out) hb);have bP:=A_ ((by rw [hg];exact nl (blk_lt (Z1 aB.out)) : aJ ≠ bV));have dH:=A_ ((by rw [hg];exact Nat.ne_of_gt (blk_lt (Z1 aB.out)) : bV ≠ aJ));replace aB:=A_ (bb (Z1 aB.out) hb);have bQ:=A_ ((by rw [hg];exact nl (blk_lt (Z1 aA.out)) : aF ≠ bV));have dI:=A_ ((by rw [hg];exact Nat.ne_of_gt (blk_lt (Z1 aA.out)) : bV ≠ aF));replace aA:=A_ (bb (Z1 aA.out) hb);clear hb hbox hg;have E3:=dH.out;have E4:=bP.out;have E5:=dI.out;have E6:=bQ.out;obtain ⟨uW,uX,uY,uZ,u0,u2,u3,u4,u5,u6,u7,u8,u9,vA⟩:=C7 d0.out) | ((with_reducible refine gate_callee (f:=25) rfl ?_);refine gL 233 Try.func25 #[.slice (some e1) l0.length c0,.int .i64 a1,.agg #[.int .i64 ((rd_T46 aK aH).f0),.int .i64 ((rd_T46 aK aH).f1),.slice dQ ((rd_T46 aK aH).f2).length dR,.slice dS ((rd_T46 aK aH).f3).length dT,.slice dU ((rd_T46 aK aH).f4).length dV,.slice dW ((rd_T46 aK aH).f5).length dX,.slice dY ((rd_T46 aK aH).f6).length dZ],.int .i64 (wrap64 (a3 + 1)),.int .i64 bU] ?_;(with_reducible refine (ih k6 (by have:=a5.out;have:=bH.out;have:=d8.out;have:=d5.out;have:=gB.out;have:=CN.out;omega) _ _ l0 a1 ((rd_T46 aK aH).f0) ((rd_T46 aK aH).f1) _ _ ((rd_T46 aK aH).f2) _ _ ((rd_T46 aK aH).f3) _ _ ((rd_T46 aK aH).f4) _ _ ((rd_T46 aK aH).f5) _ _ ((rd_T46 aK aH).f6) (wrap64 (a3 + 1)) bU true _ ?s1 FB.out ?s3 eA.out ?s5 eC.out ?s7 eE.out ?s9 eG.out ?s11 eI.out uV.out).mono ?_);(case s1 => exact Kd.C_below mU.out Z31);(case s3 => exact Kd.C_below d9.out Z31);(case s5 => exact Kd.C_below eB.out Z31);(case s7 => exact Kd.C_below eD.out Z31);(case s9 => exact Kd.C_below eF.out Z31);(case s11 => exact Kd.C_below eH.out Z31);rintro e HJ ⟨rfl,hb⟩;refine ⟨_,rfl,?_⟩;replace aB:=A_ (bb (g:=aJ) (o:=.cells #[.int .i64 aI,.int .i64 aO,.slice a9 aL.length bA,.slice bB aX.length bC,.slice bD aS.length bE,.slice b6 l2_5.length bF,.slice (some iR) aK.length bG] 46 (0,0)) (Z14 bP.out aB.out) hb);replace aA:=A_ (bb (g:=aF) (o:=.cells #[.int .i64 ((rd_T48 l0 a1).f0),.slice A955_1 ((rd_T48 l0 a1).f1).length c955_1,.slice A955_2 ((rd_T48 l0 a1).f2).length c955_2,.int .i64 ((rd_T48 l0 a1).f3.f0),.int .i64 ((rd_T48 l0 a1).f3.f1),.slice A955_5 ((rd_T48 l0 a1).f3.f2).length c955_5,.slice A955_6 ((rd_T48 l0 a1).f3.f3).length c955_6,.slice A955_7 ((rd_T48 l0 a1).f3.f4).length c955_7,.slice A955_8 ((rd_T48 l0 a1).f3.f5).length c955_8,.slice aT ((rd_T48 l0 a1).f3.f6).length aU] 48 (0,0)) (Z14 bQ.out aA.out) hb);replace d0:=A_ (bb (g:=bV) (o:=.cells #[.int .i64 ((rd_T46 aK aH).f0),.int .i64 ((rd_T46 aK aH).f1),.slice dQ ((rd_T46 aK aH).f2).length dR,.slice dS ((rd_T46 aK aH).f3).length dT,.slice dU ((rd_T46 aK aH).f4).length dV,.slice dW ((rd_T46 aK aH).f5).length dX,.slice dY ((rd_T46 aK aH).f6).length dZ] 46 (0,0)) (bp0 d0.out) hb);replace HB:=A_ (bst Z31 hb);(try clear hb)))
             go_roundg k6
             case measure => have:=a5.out;have:=bH.out;have:=d8.out;have:=d5.out;have:=gB.out;have:=CN.out;omega
             case rel => exact ⟨(wrap64 (aH + 1)),Z22,H',⟨by have:=a5.out;have:=bH.out;have:=d8.out;have:=d5.out;have:=gB.out;have:=CN.out;omega⟩,⟨Z1 aB.out⟩,⟨Z1 aA.out⟩,⟨Z31⟩⟩
            ·replace kZ:=Bool.eq_false_iff.mpr kZ
             subst kZ;rw [if_neg (show ¬ (false = true) by decide)] at H;obtain rfl:=Option.some.inj H;have eZ : 0 ≤ (aH : Int):=odt;have e0 : aH < (aK.length : Int):=odt;obtain ⟨iR,dQ,dR,dS,dT,dU,dV,dW,dX,dY,dZ,mL,cQ,cR,cS,cT,cU,cV,cW,cX,cY,cZ,dA,dB,dC,dD,dE,dF,dG⟩:=at_T46 k2.out aH eZ e0;cases mL;replace cQ:=ZC HB.out cQ;replace cR:=ZC HB.out cR;replace cS:=ZC HB.out cS;replace cT:=ZC HB.out cT;replace cU:=ZC HB.out cU;replace cV:=ZC HB.out cV;replace cW:=ZC HB.out cW;have d9:=A_ cY;have eA:=A_ cX;clear cY cX;have eB:=A_ dA;have eC:=A_ cZ;clear dA cZ;have eD:=A_ dC;have eE:=A_ dB;clear dC dB;have eF:=A_ dE;have eG:=A_ dD;clear dE dD;have eH:=A_ dG;have eI:=A_ dF;clear dG dF;replace eZ:=eq_true eZ;replace e0:=eq_true e0
             go_wp2_with (first | ((with_reducible refine gate_dst (N:=20) rfl ?_);(try (refine gate_guard (by rfl) ?_;dsimp only));refine be (cs:=#[.int .i64 0,.int .i64 0,.slice none 0 0,.slice none 0 0,.slice none 0 0,.slice none 0 0,.slice none 0 0]) (t:=46) ?_;intro bV hg HL hbox hb;have d0:=A_ hbox;have iS:=A_ (gl hg (bz (Z8 GE954.out GE956.out)));have GE974:=iS;replace HB:=A_ (bst (Z8 GE954.out GE956.out) hb);have bP:=A_ ((by rw [hg];exact nl (blk_lt (Z1 aB.out)) : aJ ≠ bV));have dH:=A_ ((by rw [hg];exact Nat.ne_of_gt (blk_lt (Z1 aB.out)) : bV ≠ aJ));replace aB:=A_ (bb (Z1 aB.out) hb);have bQ:=A_ ((by rw [hg];exact nl (blk_lt (Z1 aA.out)) : aF ≠ bV));have dI:=A_ ((by rw [hg];exact Nat.ne_of_gt (blk_lt (Z1 aA.out)) : bV ≠ aF));replace aA:=A_ (bb (Z1 aA.out) hb);clear hb hbox hg;have E7:=dH.out;have E8:=bP.out;have E9:=dI.out;have FA:=bQ.out;obtain ⟨vB,vC,vD,vE,vF,vG,vH,vI,vJ,vK,vL,vM,vN,vO⟩:=C7 d0.out) | ((with_reducible refine gate_callee (f:=25) rfl ?_);refine gL 233 Try.func25 #[.slice (some e1) l0.length c0,.int .i64 a1,.agg #[.int .i64 ((rd_T46 aK aH).f0),.int .i64 ((rd_T46 aK aH).f1),.slice dQ ((rd_T46 aK aH).f2).length dR,.slice dS ((rd_T46 aK aH).f3).length dT,.slice dU ((rd_T46 aK aH).f4).length dV,.slice dW ((rd_T46 aK aH).f5).length dX,.slice dY ((rd_T46 aK aH).f6).length dZ],.int .i64 (wrap64 (a3 + 1)),.int .i64 bU] ?_;(with_reducible refine (ih k6 (by have:=a5.out;have:=bH.out;have:=d8.out;have:=d5.out;have:=gB.out;have:=CN.out;omega) _ _ l0 a1 ((rd_T46 aK aH).f0) ((rd_T46 aK aH).f1) _ _ ((rd_T46 aK aH).f2) _ _ ((rd_T46 aK aH).f3) _ _ ((rd_T46 aK aH).f4) _ _ ((rd_T46 aK aH).f5) _ _ ((rd_T46 aK aH).f6) (wrap64 (a3 + 1)) bU false _ ?s1 FB.out ?s3 eA.out ?s5 eC.out ?s7 eE.out ?s9 eG.out ?s11 eI.out uV.out).mono ?_);(case s1 => exact Kd.C_below mU.out Z31);(case s3 => exact Kd.C_below d9.out Z31);(case s5 => exact Kd.C_below eB.out Z31);(case s7 => exact Kd.C_below eD.out Z31);(case s9 => exact Kd.C_below eF.out Z31);(case s11 => exact Kd.C_below eH.out Z31);rintro e HM ⟨rfl,hb⟩;refine ⟨_,rfl,?_⟩;replace aB:=A_ (bb (g:=aJ) (o:=.cells #[.int .i64 aI,.int .i64 aO,.slice a9 aL.length bA,.slice bB aX.length bC,.slice bD aS.length bE,.slice b6 l2_5.length bF,.slice (some iR) aK.length bG] 46 (0,0)) (Z14 bP.out aB.out) hb);replace aA:=A_ (bb (g:=aF) (o:=.cells #[.int .i64 ((rd_T48 l0 a1).f0),.slice A955_1 ((rd_T48 l0 a1).f1).length c955_1,.slice A955_2 ((rd_T48 l0 a1).f2).length c955_2,.int .i64 ((rd_T48 l0 a1).f3.f0),.int .i64 ((rd_T48 l0 a1).f3.f1),.slice A955_5 ((rd_T48 l0 a1).f3.f2).length c955_5,.slice A955_6 ((rd_T48 l0 a1).f3.f3).length c955_6,.slice A955_7 ((rd_T48 l0 a1).f3.f4).length c955_7,.slice A955_8 ((rd_T48 l0 a1).f3.f5).length c955_8,.slice aT ((rd_T48 l0 a1).f3.f6).length aU] 48 (0,0)) (Z14 bQ.out aA.out) hb);replace d0:=A_ (bb (g:=bV) (o:=.cells #[.int .i64 ((rd_T46 aK aH).f0),.int .i64 ((rd_T46 aK aH).f1),.slice dQ ((rd_T46 aK aH).f2).length dR,.slice dS ((rd_T46 aK aH).f3).length dT,.slice dU ((rd_T46 aK aH).f4).length dV,.slice dW ((rd_T46 aK aH).f5).length dX,.slice dY ((rd_T46 aK aH).f6).length dZ] 46 (0,0)) (bp0 d0.out) hb);replace HB:=A_ (bst Z31 hb);(try clear hb)))
             go_ret
             exact ⟨Z12,Z31⟩
           ·rw [if_neg kY] at H
            exact absurd H (by simp)
          ·rw [if_neg kX] at H
           exact absurd H (by simp)
         ·rw [if_neg gD] at H
          have mK:=df gD;clear gD;obtain rfl:=Option.some.inj H
          go_wp2
          go_ret
          exact ⟨Z12,Z8 GE954.out GE956.out⟩
theorem impl_tmplOk.calls (k : Nat) : ∀ (A0 : Option Addr) (c0 : Nat) (l0 : List (S48)) (a1 : Int) (aI : Int) (aO : Int) (a9 : Option Addr) (bA : Nat) (aL : List Int) (bB : Option Addr) (bC : Nat) (aX : List (List (S70))) (bD : Option Addr) (bE : Nat) (aS : List (S70)) (b6 : Option Addr) (bF : Nat) (l2_5 : List (S76)) (bK : Option Addr) (bG : Nat) (aK : List (S46)) (a3 : Int) (a4 : Int) (r : Bool) (w : World) (CO : Kd.C k48 w A0 l0.length l0) (hc0 : l0.length ≤ c0) (gE : Kd.C (Kd.int .i64) w a9 aL.length aL) (gF : aL.length ≤ bA) (gG : Kd.C (Kd.slice 70 k70) w bB aX.length aX) (gH : aX.length ≤ bC) (gI : Kd.C k70 w bD aS.length aS) (gJ : aS.length ≤ bE) (gK : Kd.C k76 w b6 l2_5.length l2_5) (gM : l2_5.length ≤ bF) (gN : Kd.C k46 w bK aK.length aK) (gO : aK.length ≤ bG) (h : impl_tmplOk.f k l0 a1 aI aO aL aX aS l2_5 aK a3 a4 = some r),
  Calls Try.prog 25 #[.slice A0 l0.length c0,.int .i64 a1,.agg #[.int .i64 aI,.int .i64 aO,.slice a9 aL.length bA,.slice bB aX.length bC,.slice bD aS.length bE,.slice b6 l2_5.length bF,.slice bK aK.length bG],.int .i64 a3,.int .i64 a4] w fun e w' => e = .returned (.bool r) ∧ Below w.heap.size w w':=impl_tmplOk.S1.2 (impl_tmplOk.S2.2 impl_tmplOk.b) k
end Go.Proofs.Ytmgdjmeoljepgaa.PFnProgBelow
