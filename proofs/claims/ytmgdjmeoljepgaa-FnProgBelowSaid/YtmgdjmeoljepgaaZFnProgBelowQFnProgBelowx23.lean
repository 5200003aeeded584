/- Walks (lines of the print; no condition). -/
import Derived.Test.YtmgdjmeoljepgaaZFnProgBelowQFnProgBelowx0
namespace Go.Proofs.Ytmgdjmeoljepgaa.PFnProgBelow
open Go.RowKit Go.Proofs.YtmgdjmeoljepgaaW.PrintWords Go.Proofs.YtmgdjmeoljepgaaW.PrintLast Go.Proofs.YtmgdjmeoljepgaaW.PrintMore
attribute [local go_sem] max2_int min2_int max_two min_two max_three min_three max_four min_four
set_option linter.unusedVariables false
set_option linter.unusedSimpArgs false
mutual
def impl_below.j0 : Nat → List (S48) → List Bool → Bool → Int → Int → List Int → List (List (S70)) → List (S70) → List (S76) → List (S46) → Option (List Bool)
 | 0,_,_,_,_,_,_,_,_,_,_ => none
 | k + 1,x0,x2,aT,aC,aA,aD,aE,aF,aG,aB => if aT = true then (if 0 ≤ aA then (if aA < (x2.length : Int) then (if aA < (x0.length : Int) then ((impl_below.f k x0 ((rd_T48 x0 aA).f3.f0) ((rd_T48 x0 aA).f3.f1) ((rd_T48 x0 aA).f3.f2) ((rd_T48 x0 aA).f3.f3) ((rd_T48 x0 aA).f3.f4) ((rd_T48 x0 aA).f3.f5) ((rd_T48 x0 aA).f3.f6) (x2.set (aA : Int).toNat true)).bind fun aQ => (impl_below.j1 k x0 aQ aC aA aD aE aF aG aB)) else (none)) else (none)) else (none)) else (impl_below.j1 k x0 x2 aC aA aD aE aF aG aB)
def impl_below.j1 : Nat → List (S48) → List Bool → Int → Int → List Int → List (List (S70)) → List (S70) → List (S76) → List (S46) → Option (List Bool)
 | 0,_,_,_,_,_,_,_,_,_ => none
 | k + 1,x0,x2,aC,aA,aD,aE,aF,aG,aB => impl_below.l0 k x0 x2 aB (aB.length : Int) 0
def impl_below.l0 : Nat → List (S48) → List Bool → List (S46) → Int → Int → Option (List Bool)
 | 0,_,_,_,_,_ => none
 | k + 1,x0,x2,aJ,aS,aH => if aH < aS then (if 0 ≤ aH then (if aH < (aJ.length : Int) then ((impl_below.f k x0 ((rd_T46 aJ aH).f0) ((rd_T46 aJ aH).f1) ((rd_T46 aJ aH).f2) ((rd_T46 aJ aH).f3) ((rd_T46 aJ aH).f4) ((rd_T46 aJ aH).f5) ((rd_T46 aJ aH).f6) x2).bind fun aR => (impl_below.l0 k x0 aR aJ aS (wrap64 (aH + 1)))) else (none)) else (none)) else (some x2)
def impl_below.f : Nat → List (S48) → Int → Int → List Int → List (List (S70)) → List (S70) → List (S76) → List (S46) → List Bool → Option (List Bool)
 | 0,_,_,_,_,_,_,_,_,_ => none
 | k + 1,l0,aK,aI,aL,aM,aN,aO,aP,l2 => if aK = 4 then (if 0 ≤ aI then (if aI < (l2.length : Int) then (impl_below.j0 k l0 l2 (!(rdOf false l2 aI)) aK aI aL aM aN aO aP) else (none)) else (none)) else (impl_below.j0 k l0 l2 false aK aI aL aM aN aO aP)
end
set_option maxHeartbeats 8000000 in
set_option maxRecDepth 100000 in
theorem impl_below.calls (k : Nat) : ∀ (A0 : Option Addr) (c0 : Nat) (l0 : List (S48)) (aJ : Int) (aD : Int) (aS : Option Addr) (aT : Nat) (aL : List Int) (aU : Option Addr) (aV : Nat) (aM : List (List (S70))) (aW : Option Addr) (aX : Nat) (aN : List (S70)) (aY : Option Addr) (aZ : Nat) (aO : List (S76)) (a4 : Option Addr) (a0 : Nat) (aB : List (S46)) (aP : Nat → Prop) (aG : Value) (l2 : List Bool) (r : List Bool) (w0 w : World) (hB : Below w0.heap.size w0 w) (iX : Kd.C k48 w0 A0 l0.length l0) (hc0 : l0.length ≤ c0) (cP : Kd.C (Kd.int .i64) w0 aS aL.length aL) (cQ : aL.length ≤ aT) (cR : Kd.C (Kd.slice 70 k70) w0 aU aM.length aM) (cS : aM.length ≤ aV) (cT : Kd.C k70 w0 aW aN.length aN) (cU : aN.length ≤ aX) (cV : Kd.C k76 w0 aY aO.length aO) (cW : aO.length ≤ aZ) (cX : Kd.C k46 w0 a4 aB.length aB) (cY : aB.length ≤ a0) (ho2 : Kd.R Kd.bool 4 w w0.heap.size aP aG l2) (h : impl_below.f k l0 aJ aD aL aM aN aO aB l2 = some r),
  Calls Try.prog 15 #[.slice A0 l0.length c0,.agg #[.int .i64 aJ,.int .i64 aD,.slice aS aL.length aT,.slice aU aM.length aV,.slice aW aN.length aX,.slice aY aO.length aZ,.slice a4 aB.length a0],aG] w fun e w' => e = .returned (.tuple #[]) ∧ Kd.R Kd.bool 4 w' w0.heap.size (fun k_ => (aP k_ ∨ w.heap.size ≤ k_)) aG r ∧ Below w0.heap.size w0 w' ∧ Kept w w' (fun k_ => aP k_):=by
 induction k using Nat.strongRecOn with
 | _ k ih =>
 intro A0 c0 l0 aJ aD aS aT aL aU aV aM aW aX aN aY aZ aO a4 a0 aB aP aG l2 r w0 w hB iX hc0 cP cQ cR cS cT cU cV cW cX cY ho2 h
 cases k with
 | zero => exact absurd h (by simp [impl_below.f])
 | succ k =>
 simp only [impl_below.f] at h;have kM:=Try.underlying46;have iY:=A_ iX;have jX:=A_ hc0;clear iX hc0;have jY:=A_ cP;have jZ:=A_ cQ;clear cP cQ;have j2:=A_ cR;have j3:=A_ cS;clear cR cS;have j4:=A_ cT;have j5:=A_ cU;clear cT cU;have j6:=A_ cV;have j7:=A_ cW;clear cV cW;have e0:=A_ cX;have j8:=A_ cY;clear cX cY;have eX:=A_ (show Kd.R Kd.bool 4 w w0.heap.size (fun k_ => (aP k_ ∨ w.heap.size ≤ k_)) aG l2 from Rm ho2 (fun k_ hk => (.inl hk)));have HK:=A_ (Kept.refl w (fun k_ => aP k_));have kY:=A_ hB.size;have HB:=A_ hB;clear hB;have H:=h;unfold impl_below.f at H;clear h;have iZ:=A_ H;clear H
 go_enter Try.func15,Try.ntmps15
 go_upto_region 1 with (first | ((with_reducible refine gate_dst (N:=4) rfl ?_);refine be (cs:=#[.int .i64 aJ,.int .i64 aD,.slice aS aL.length aT,.slice aU aM.length aV,.slice aW aN.length aX,.slice aY aO.length aZ,.slice a4 aB.length a0]) (t:=46) ?_;intro aQ hg w5 hbox hb;replace eX:=A_ (Kd.R_below (Z17 eX.out) hb);have aC:=A_ hbox;have aF:=A_ ((by rw [hg];exact (by first | exact HK.out.1 | exact (show Kept w _ (fun k_ => aP k_) from by repeat (first | (with_reducible first | exact HK.out | apply Kept.alloc | apply Kept.drewN | apply Kept.drew) | exact HK.out)).1) : w.heap.size ≤ aQ));replace HK:=A_ (Kept.below (S:=(fun k_ => aP k_)) (by repeat (first | (with_reducible first | exact HK.out | apply Kept.alloc | apply Kept.drewN | apply Kept.drew) | exact HK.out)) hb);have aH:=A_ (gl hg (bz Z2));replace HB:=A_ (bst Z2 hb);clear hb hbox hg))
 (try simp only [Act.put,List.setIfInBounds_toArray,List.set_cons_zero,List.set_cons_succ])
 go_cut [18] (fun kN wc => ∃ (kq : Nat) (bF : Bool),kN = .bool bF ∧ Aside0 (impl_below.j0 kq l0 l2 bF aJ aD aL aM aN aO aB = some r) ∧ Aside0 (kq ≤ k) ∧ Aside0 (Kd.R Kd.bool 4 wc w0.heap.size (fun k_ => (aP k_ ∨ w.heap.size ≤ k_)) aG l2) ∧ Aside0 (wc.heap[aQ]? = some (.cells #[.int .i64 aJ,.int .i64 aD,(.slice aS aL.length aT),(.slice aU aM.length aV),(.slice aW aN.length aX),(.slice aY aO.length aZ),(.slice a4 aB.length a0)] 46 (0,0))) ∧ Aside0 (Kept w wc (fun k_ => aP k_)) ∧ Aside0 (Below w0.heap.size w0 wc))
 case first =>
  have H:=iZ.out;clear iZ
  by_cases c6 : aJ = 4
  ·rw [if_pos c6] at H
   have cZ:=e_t c6;have i1:=n_f c6;clear c6;(first | rw [cZ] | (simp only [i64_w,i32_w];rw [cZ]) | skip)
   by_cases c7 : 0 ≤ aD
   ·rw [if_pos c7] at H
    have kO:=dt c7;clear c7
    by_cases c8 : aD < (l2.length : Int)
    ·rw [if_pos c8] at H
     have kP:=dt c8;clear c8;have H':=A_ H;clear H;obtain ⟨i2,i3,i4,i5,i6,i7,i8,i9,jA,jB,jC,jD,jE,jF⟩:=C7 aC.out;obtain ⟨kQ,kR,jG⟩:=Kd.R_slice eX.out;subst jG;have eC : 0 ≤ (aD : Int):=odt;have eD : aD < (l2.length : Int):=odt;obtain ⟨j9,jH,fG⟩:=Kd.at_bool (Kd.R_reads' eX.out).2.2 aD eC eD;cases jH;replace eC:=eq_true eC;replace eD:=eq_true eD
     go_wp2
     go_meet
     case rel => exact ⟨_,(!(rdOf false l2 aD)),Z22,H',⟨Z47⟩,⟨Z17 eX.out⟩,⟨Z1 aC.out⟩,⟨Z37 aF.out⟩,⟨Z3 aH.out⟩⟩
    ·rw [if_neg c8] at H
     exact absurd H (by simp)
   ·rw [if_neg c7] at H
    exact absurd H (by simp)
  ·rw [if_neg c6] at H
   have cZ:=e_f c6;have i1:=n_t c6;(first | rw [cZ] | (simp only [i64_w,i32_w];rw [cZ]) | skip);have H':=A_ H;clear H;obtain ⟨fH,fI,fJ,fK,fL,fM,fN,fO,fP,fQ,fR,fS,fT,fU⟩:=C7 aC.out
   go_wp2
   go_meet
   case rel => exact ⟨_,(false),Z22,H',⟨Z47⟩,⟨Z17 eX.out⟩,⟨Z1 aC.out⟩,⟨Z37 aF.out⟩,⟨Z3 aH.out⟩⟩
 case rest =>
  clear iZ;obtain ⟨kq,bF,rfl,HA,eY,aE,aC,HK,HB⟩:=hcut
  cases kq with
  | zero => exact absurd HA.out (by simp [impl_below.j0])
  | succ kA =>
   have H:=HA.out;clear HA;simp only [impl_below.j0] at H;have eE:=A_ H;clear H
   go_upto_if 18 with (fail)
   go_cut [] (fun wc => ∃ (kq : Nat) (bG : List Bool),Aside0 (impl_below.j1 kq l0 bG aJ aD aL aM aN aO aB = some r) ∧ Aside0 (kq ≤ kA) ∧ Aside0 (Kd.R Kd.bool 4 wc w0.heap.size (fun k_ => (aP k_ ∨ w.heap.size ≤ k_)) aG bG) ∧ Aside0 (wc.heap[aQ]? = some (.cells #[.int .i64 aJ,.int .i64 aD,(.slice aS aL.length aT),(.slice aU aM.length aV),(.slice aW aN.length aX),(.slice aY aO.length aZ),(.slice a4 aB.length a0)] 46 (0,0))) ∧ Aside0 (Kept w wc (fun k_ => aP k_)) ∧ Aside0 (Below w0.heap.size w0 wc))
   case first =>
    have H:=eE.out;clear eE
    by_cases fV : bF = true
    ·subst fV
     rw [if_pos rfl] at H
     by_cases fW : 0 ≤ aD
     ·rw [if_pos fW] at H
      have eB:=dt fW;clear fW;(first | rw [eB] | (simp only [i64_w,i32_w];rw [eB]) | skip)
      by_cases fX : aD < (l2.length : Int)
      ·rw [if_pos fX] at H
       have kB:=dt fX;clear fX;obtain ⟨e1,bH⟩ : ∃ y_ : List Bool,y_ = (l2.set (aD : Int).toNat true):=⟨_,rfl⟩
       first | rw [← bH,Option.bind_some] at H | rw [← bH] at H
       have e2:=A_ bH;clear bH
       by_cases fY : aD < (l0.length : Int)
       ·rw [if_pos fY] at H
        have kC:=dt fY;clear fY;replace H:=bS H;obtain ⟨e3,e4,H⟩:=H
        try dsimp only at H
        have kS:=A_ e4;clear e4;have H':=A_ H;clear H;obtain ⟨fZ,f7,f8,f9,gA,gB,gC,gD,gE,gF,gG,gH,gI,gJ⟩:=C7 aC.out;have jI : 0 ≤ (aD : Int):=odt;have jJ : (aD : Int) < ((l2.length : Int) : Int):=odt;obtain ⟨a2,dC,e5,e6,jK,kT,e7⟩:=Kd.R_form aE.out (by omega);(first | cases e5 | (injection e5 with ea_ en_ ec_;(first | subst ea_ | (injection ea_ with ea_;subst ea_));subst ec_;clear en_));have jL:=A_ e6;have kU:=A_ e7;clear e6 jK e7;have jM:=A_ (show (aP a2 ∨ w.heap.size ≤ a2) from (aE.out.1 _ rfl));obtain ⟨jN,jO⟩:=Kd.R_celln false aE.out (aD : Int) jI jJ;replace jI:=eq_true jI;replace jJ:=eq_true jJ;have eF:=Kd.R_putg aE.out (aD : Int) true
        go_wp2_with (first | ((with_reducible refine gate_store (t:=4) (p:=22) rfl ?_);refine store_event (t:=4) (p:=22) (v:=?vo_w21) (w1:=(wc.setCell ⟨a2,(aD : Int).toNat,none⟩ (.bool true))) ?hg ?ho ?hn ?hr ?_;(case ho => rfl);(case hg => rfl);(case hn => rfl);(case hr => exact Z51);intro jP hw;have hg : wc.grownBy jP (some a2):=(by rw [hw];exact eF.2);have hp_ : Kd.R Kd.bool 4 jP w0.heap.size (fun k_ => (aP k_ ∨ w.heap.size ≤ k_)) (.slice (some ⟨a2,0,none⟩) l2.length dC) e1:=(by rw [hw,e2.out];exact eF.1);clear eF;replace aC:=A_ (blk_grown (Z1 aC.out) hg (Kd.R_ne aE.out aC.out (by decide)));replace HB:=A_ ((by rw [hw];exact below_set (HB.out) jL.out : Below w0.heap.size w0 jP));replace HK:=A_ (Kept.of_grown (S:=(fun k_ => aP k_)) hg (Z37 aF.out) (fun k_ e_ => (aE.out.1 k_ e_)));replace aE:=A_ hp_;clear hg hw hp_;obtain ⟨gK,gM,gN,gO,gP,gQ,gR,gS,gT,gU,gV,gW,gX,gY⟩:=C7 aC.out;have eG : 0 ≤ (aD : Int):=odt;have eH : aD < (l0.length : Int):=odt;obtain ⟨e8,jQ,jR,jS,jT,eI,eJ,eK,eL,eM,eN,eO,eP,eQ,eR,jU,bI,bJ,bK,bL,bM,bN,bO,bP,bQ,bR,bT,bU,bV,bW,bX,bY,bZ,b0,b1,b2,b3,b4,b5,b6⟩:=at_T48 iY.out aD eG eH;cases jU;replace bI:=pw_cell_below HB.out bI;replace bJ:=pw_cell_below HB.out bJ;replace bK:=pw_cell_below HB.out bK;replace bL:=pw_cell_below HB.out bL;replace bM:=pw_cell_below HB.out bM;replace bN:=pw_cell_below HB.out bN;replace bO:=pw_cell_below HB.out bO;replace bP:=pw_cell_below HB.out bP;replace bQ:=pw_cell_below HB.out bQ;replace bR:=pw_cell_below HB.out bR;have gZ:=A_ bU;have hD:=A_ bT;clear bU bT;have hI:=A_ bW;have hJ:=A_ bV;clear bW bV;have dD:=A_ bY;have dE:=A_ bX;clear bY bX;have dF:=A_ b0;have dG:=A_ bZ;clear b0 bZ;have dH:=A_ b2;have dI:=A_ b1;clear b2 b1;have dJ:=A_ b4;have dK:=A_ b3;clear b4 b3;have dL:=A_ b6;have dM:=A_ b5;clear b6 b5;replace eG:=eq_true eG;replace eH:=eq_true eH) | ((with_reducible refine gate_callee (f:=15) rfl ?_);refine gL 31 Try.func15 #[.slice (some e8) l0.length c0,.agg #[.int .i64 ((rd_T48 l0 aD).f3.f0),.int .i64 ((rd_T48 l0 aD).f3.f1),.slice eI ((rd_T48 l0 aD).f3.f2).length eJ,.slice eK ((rd_T48 l0 aD).f3.f3).length eL,.slice eM ((rd_T48 l0 aD).f3.f4).length eN,.slice eO ((rd_T48 l0 aD).f3.f5).length eP,.slice eQ ((rd_T48 l0 aD).f3.f6).length eR],.slice (some ⟨a2,0,none⟩) l2.length dC] ?_;(with_reducible refine (ih kA (by have:=eY.out;omega) _ _ l0 ((rd_T48 l0 aD).f3.f0) ((rd_T48 l0 aD).f3.f1) _ _ ((rd_T48 l0 aD).f3.f2) _ _ ((rd_T48 l0 aD).f3.f3) _ _ ((rd_T48 l0 aD).f3.f4) _ _ ((rd_T48 l0 aD).f3.f5) _ _ ((rd_T48 l0 aD).f3.f6) (fun k_ => some k_ = (.slice (some ⟨a2,0,none⟩) l2.length dC : Value).ownBlock) (.slice (some ⟨a2,0,none⟩) l2.length dC) e1 e3 w0 _ ?s1 iY.out jX.out dD.out dE.out dF.out dG.out dH.out dI.out dJ.out dK.out dL.out dM.out ?s14 kS.out).mono ?_);(case s1 => exact Z3 aH.out);(case s14 => exact Kd.R_tight rfl aE.out);rintro e kZ ⟨rfl,e9,hb,hkp⟩;refine ⟨_,rfl,?_⟩;replace aC:=A_ (blk_kept (Z1 aC.out) hkp (fun hs_ => (fun e_ => (Kd.R_ne aE.out aC.out (by decide)) e_) hs_));replace HK:=A_ (Kept.then_ (S:=(fun k_ => aP k_)) (Z37 aF.out) hkp (fun k_ hs_ => (fun e_ => (aE.out.1 k_ e_.symm)) hs_));replace aE:=A_ (Kd.R_reok rfl e9 (fun k_ e_ => aE.out.1 k_ e_));replace HB:=A_ hb;(try clear hb);(try clear hkp);(try clear e9)))
        go_meet
        case rel => exact ⟨_,(e3),H',⟨by have:=eY.out;first | omega | exact Nat.le_refl _⟩,⟨Z17 aE.out⟩,⟨Z1 aC.out⟩,⟨Z37 aF.out⟩,⟨Z3 aH.out⟩⟩
       ·rw [if_neg fY] at H
        exact absurd H (by simp)
      ·rw [if_neg fX] at H
       exact absurd H (by simp)
     ·rw [if_neg fW] at H
      exact absurd H (by simp)
    ·replace fV:=Bool.eq_false_iff.mpr fV
     subst fV;rw [if_neg (show ¬ (false = true) by decide)] at H;have H':=A_ H;clear H
     go_wp2
     go_meet
     case rel => exact ⟨_,(l2),H',⟨by have:=eY.out;first | omega | exact Nat.le_refl _⟩,⟨Z17 aE.out⟩,⟨Z1 aC.out⟩,⟨Z37 aF.out⟩,⟨Z3 aH.out⟩⟩
   case rest =>
    clear eE;obtain ⟨kq,bG,HA,eS,aE,aC,HK,HB⟩:=hcut
    cases kq with
    | zero => exact absurd HA.out (by simp [impl_below.j1])
    | succ fA =>
     have H:=HA.out;clear HA;simp only [impl_below.j1] at H;have H':=A_ H;clear H;obtain ⟨dN,dO,dP,dQ,dR,dS,dT,dU,dV,dW,dX,dY,dZ,d0⟩:=C7 aC.out
     go_wp2
     go_loopg [35] fA (fun kq kV w' => ∃ (a3 : List Bool) (aA : Int),kV = .int .i64 aA ∧ Aside0 (impl_below.l0 kq l0 a3 aB (aB.length : Int) aA = some r) ∧ Aside0 (kq ≤ fA) ∧ Aside0 (Kd.R Kd.bool 4 w' w0.heap.size (fun k_ => (aP k_ ∨ w.heap.size ≤ k_)) aG a3) ∧ Aside0 (w'.heap[aQ]? = some (.cells #[.int .i64 aJ,.int .i64 aD,(.slice aS aL.length aT),(.slice aU aM.length aV),(.slice aW aN.length aX),(.slice aY aO.length aZ),(.slice a4 aB.length a0)] 46 (0,0))) ∧ Aside0 (Kept w w' (fun k_ => aP k_)) ∧ Aside0 (Below w0.heap.size w0 w'))
     case atStart => exact ⟨(bG),(0),Z22,H',⟨Nat.le_refl _⟩,⟨Z17 aE.out⟩,⟨Z1 aC.out⟩,⟨Z37 aF.out⟩,⟨Z3 aH.out⟩⟩
     case round =>
      clear H' dN dO dP dQ dR dS dT dU dV dW dX dY dZ d0;obtain ⟨a3,aA,rfl,HA,HK3,aE,aC,HK,HB⟩:=hrel
      cases gk with
      | zero => exact absurd HA.out (by simp [impl_below.l0])
      | succ k3 =>
       have H:=HA.out;clear HA;simp only [impl_below.l0] at H
       by_cases eZ : aA < (aB.length : Int)
       ·rw [if_pos eZ] at H
        have fB:=dt eZ;clear eZ
        by_cases hL : 0 ≤ aA
        ·rw [if_pos hL] at H
         have kD:=dt hL;clear hL
         by_cases hO : aA < (aB.length : Int)
         ·rw [if_pos hO] at H
          have kE:=dt hO;clear hO;replace H:=bS H;obtain ⟨fC,fD,H⟩:=H
          try dsimp only at H
          have kW:=A_ fD;clear fD;have H':=A_ H;clear H;have eT : 0 ≤ (aA : Int):=odt;have eU : aA < (aB.length : Int):=odt;obtain ⟨fE,a5,a6,a7,a8,a9,bA,bB,bC,bD,bE,jV,b7,b8,b9,cA,cB,cC,cD,cE,cF,cG,cH,cI,cJ,cK,cL,cM,cN⟩:=at_T46 e0.out aA eT eU;cases jV;replace b7:=pw_cell_below HB.out b7;replace b8:=pw_cell_below HB.out b8;replace b9:=pw_cell_below HB.out b9;replace cA:=pw_cell_below HB.out cA;replace cB:=pw_cell_below HB.out cB;replace cC:=pw_cell_below HB.out cC;replace cD:=pw_cell_below HB.out cD;have d1:=A_ cF;have d2:=A_ cE;clear cF cE;have d3:=A_ cH;have d4:=A_ cG;clear cH cG;have d5:=A_ cJ;have d6:=A_ cI;clear cJ cI;have d7:=A_ cL;have d8:=A_ cK;clear cL cK;have d9:=A_ cN;have eA:=A_ cM;clear cN cM;replace eT:=eq_true eT;replace eU:=eq_true eU
          go_wp2_with (first | ((with_reducible refine gate_dst (N:=7) rfl ?_);refine be (cs:=#[.int .i64 0,.int .i64 0,.slice none 0 0,.slice none 0 0,.slice none 0 0,.slice none 0 0,.slice none 0 0]) (t:=46) ?_;intro aI hg kX hbox hb;replace aE:=A_ (Kd.R_below (Z17 aE.out) hb);have aK:=A_ hbox;have dA:=A_ ((by rw [hg];exact (by first | exact HK.out.1 | exact (show Kept w _ (fun k_ => aP k_) from by repeat (first | (with_reducible first | exact HK.out | apply Kept.alloc | apply Kept.drewN | apply Kept.drew | refine Kept.setCell ?_ (.inr aF.out) _) | exact HK.out)).1) : w.heap.size ≤ aI));replace HK:=A_ (Kept.below (S:=(fun k_ => aP k_)) (Z37 aF.out) hb);have dB:=A_ (gl hg (bz (Z3 aH.out)));replace HB:=A_ (bst (Z3 aH.out) hb);have aR:=A_ ((by rw [hg];exact nl (blk_lt (Z1 aC.out)) : aQ ≠ aI));have cO:=A_ ((by rw [hg];exact Nat.ne_of_gt (blk_lt (Z1 aC.out)) : aI ≠ aQ));replace aC:=A_ (bb (Z1 aC.out) hb);clear hb hbox hg;have kF:=cO.out;have kG:=aR.out;obtain ⟨hU,hV,hX,hY,hZ,iA,iB,iC,iD,iE,iF,iG,iH,iI⟩:=C7 aK.out) | ((with_reducible refine gate_store (t:=46) (p:=7) rfl ?_);refine store_event (t:=46) (p:=7) (v:=?vo_w32) (w1:=(((((((kX.setCell ⟨aI,0,none⟩ (.int .i64 ((rd_T46 aB aA).f0))).setCell ⟨aI,1,none⟩ (.int .i64 ((rd_T46 aB aA).f1))).setCell ⟨aI,2,none⟩ (.slice a5 ((rd_T46 aB aA).f2).length a6)).setCell ⟨aI,3,none⟩ (.slice a7 ((rd_T46 aB aA).f3).length a8)).setCell ⟨aI,4,none⟩ (.slice a9 ((rd_T46 aB aA).f4).length bA)).setCell ⟨aI,5,none⟩ (.slice bB ((rd_T46 aB aA).f5).length bC)).setCell ⟨aI,6,none⟩ (.slice bD ((rd_T46 aB aA).f6).length bE))) ?hg ?ho ?hn ?hr ?_;(case ho => rfl);(case hg => rfl);(case hn => rfl);(case hr => exact Z51);intro fF hw;have kH : Aside0 (Kd.R Kd.bool 4 fF w0.heap.size (fun k_ => (aP k_ ∨ w.heap.size ≤ k_)) aG a3):=⟨(by rw [hw];exact (by (with_reducible repeat (first | apply Kd.R_alloc | apply Kd.R_drewN | apply Kd.R_drew));exact Rm (Rf (Rf (Rf (Rf (Rf (Rf (Rf (Kd.R_types aE.out aK.out (by decide))))))))) (fun _ hk => hk.1)))⟩;have kI : Aside0 (fF.heap[aQ]? = some (.cells #[.int .i64 aJ,.int .i64 aD,.slice aS aL.length aT,.slice aU aM.length aV,.slice aW aN.length aX,.slice aY aO.length aZ,.slice (some fE) aB.length a0] 46 (0,0))):=⟨(by rw [hw];exact (Z14 aR.out aC.out))⟩;have kJ : Aside0 (fF.heap[aI]? = some (.cells #[.int .i64 ((rd_T46 aB aA).f0),.int .i64 ((rd_T46 aB aA).f1),.slice a5 ((rd_T46 aB aA).f2).length a6,.slice a7 ((rd_T46 aB aA).f3).length a8,.slice a9 ((rd_T46 aB aA).f4).length bA,.slice bB ((rd_T46 aB aA).f5).length bC,.slice bD ((rd_T46 aB aA).f6).length bE] 46 (0,0))):=⟨(by rw [hw];exact (bp0 aK.out))⟩;have kK : Aside0 (Kept w fF (fun k_ => aP k_)):=⟨(by rw [hw];exact (by repeat (first | (with_reducible first | exact HK.out | apply Kept.alloc | apply Kept.drewN | apply Kept.drew | refine Kept.setCell ?_ (.inr aF.out) _ | refine Kept.setCell ?_ (.inr dA.out) _) | exact HK.out)))⟩;have kL : Aside0 (Below w0.heap.size w0 fF):=⟨(by rw [hw];exact (Z8 aH.out dB.out))⟩;clear hw;clear aE;clear aC;clear aK;clear HK;clear HB;have aE:=kH;have aC:=kI;have aK:=kJ;have HK:=kK;have HB:=kL;clear kH kI kJ kK kL;obtain ⟨iJ,iK,iL,iM,iN,iO,iP,iQ,iR,iS,iT,iU,iV,iW⟩:=C7 aK.out;obtain ⟨eV,eW,jW⟩:=Kd.R_slice aE.out;subst jW) | ((with_reducible refine gate_callee (f:=15) rfl ?_);refine gL 42 Try.func15 #[.slice A0 l0.length c0,.agg #[.int .i64 ((rd_T46 aB aA).f0),.int .i64 ((rd_T46 aB aA).f1),.slice a5 ((rd_T46 aB aA).f2).length a6,.slice a7 ((rd_T46 aB aA).f3).length a8,.slice a9 ((rd_T46 aB aA).f4).length bA,.slice bB ((rd_T46 aB aA).f5).length bC,.slice bD ((rd_T46 aB aA).f6).length bE],.slice eV a3.length eW] ?_;(with_reducible refine (ih k3 (by have:=eY.out;have:=eS.out;have:=HK3.out;omega) _ _ l0 ((rd_T46 aB aA).f0) ((rd_T46 aB aA).f1) _ _ ((rd_T46 aB aA).f2) _ _ ((rd_T46 aB aA).f3) _ _ ((rd_T46 aB aA).f4) _ _ ((rd_T46 aB aA).f5) _ _ ((rd_T46 aB aA).f6) (fun k_ => some k_ = (.slice eV a3.length eW : Value).ownBlock) (.slice eV a3.length eW) a3 fC w0 _ ?s1 iY.out jX.out d1.out d2.out d3.out d4.out d5.out d6.out d7.out d8.out d9.out eA.out ?s14 kW.out).mono ?_);(case s1 => exact Z8 aH.out dB.out);(case s14 => exact Kd.R_tight rfl aE.out);rintro e k0 ⟨rfl,e9,hb,hkp⟩;refine ⟨_,rfl,?_⟩;replace aC:=A_ (blk_kept (Z1 aC.out) hkp (fun hs_ => (fun e_ => (Kd.R_ne aE.out aC.out (by decide)) e_) hs_));replace aK:=A_ (blk_kept (Z1 aK.out) hkp (fun hs_ => (fun e_ => (Kd.R_ne aE.out aK.out (by decide)) e_) hs_));replace HK:=A_ (Kept.then_ (S:=(fun k_ => aP k_)) (by repeat (first | (with_reducible first | exact HK.out | apply Kept.alloc | apply Kept.drewN | apply Kept.drew | refine Kept.setCell ?_ (.inr aF.out) _ | refine Kept.setCell ?_ (.inr dA.out) _) | exact HK.out)) hkp (fun k_ hs_ => (fun e_ => (aE.out.1 k_ e_.symm)) hs_));replace aE:=A_ (Kd.R_reok rfl e9 (fun k_ e_ => aE.out.1 k_ e_));replace HB:=A_ hb;(try clear hb);(try clear hkp);(try clear e9)))
          go_roundg k3
          case measure => have:=eY.out;have:=eS.out;have:=HK3.out;omega
          case rel => exact ⟨(fC),(wrap64 (aA + 1)),Z22,H',⟨by have:=eY.out;have:=eS.out;have:=HK3.out;omega⟩,⟨Z17 aE.out⟩,⟨Z1 aC.out⟩,⟨by repeat (first | (with_reducible first | exact HK.out | apply Kept.alloc | apply Kept.drewN | apply Kept.drew | refine Kept.setCell ?_ (.inr aF.out) _ | refine Kept.setCell ?_ (.inr dA.out) _) | exact HK.out)⟩,⟨Z8 aH.out dB.out⟩⟩
         ·rw [if_neg hO] at H
          exact absurd H (by simp)
        ·rw [if_neg hL] at H
         exact absurd H (by simp)
       ·rw [if_neg eZ] at H
        have fB:=df eZ;clear eZ;obtain rfl:=Option.some.inj H
        go_wp2
        first | go_end0 | ((try simp only [Exit.inBlock,Exit.then]);refine bodyPost_ret (results_none rfl _ _ _) rfl ?_)
        exact ⟨Z12,Z17 aE.out,Z3 aH.out,Z37 aF.out⟩
end Go.Proofs.Ytmgdjmeoljepgaa.PFnProgBelow
