/- Walks (lines of the print; no condition). -/
import Derived.Test.YtmgdjmeoljepgaaZFnProgBelowQFnProgBelowx14a
namespace Go.Proofs.Ytmgdjmeoljepgaa.PFnProgBelow
open Go.RowKit Go.Proofs.YtmgdjmeoljepgaaW.PrintWords Go.Proofs.YtmgdjmeoljepgaaW.PrintLast Go.Proofs.YtmgdjmeoljepgaaW.PrintMore
attribute [local go_sem] max2_int min2_int max_two min_two max_three min_three max_four min_four
set_option linter.unusedVariables false
set_option linter.unusedSimpArgs false
set_option maxHeartbeats 100000000
set_option maxRecDepth 100000
theorem spec_source_tmpl.b : spec_source_tmpl.S.1:=by
 intro k IK g bA eI eJ c1 l1 a2 a3 a4 r1 r2 r3 r4 r5 r6 r7 r8 r9 w0 w HZ H0 H1 mV HL k9 CK CL nV b4 eC eD H5 mX Q0_ aE JH GW687 GE687 NB0_687 a7 dK aM aN aQ aR aT aU aV aW aX aY aZ a0 a5 a6 fK fL fM fN fO fP fQ fR fS fT jU cP cQ cR cS bQ cT cU cV cW cX cY cZ dA dB eX eY aC JI GW689 GE689 bC aD NB0_689 a8 GF GG GH GI jV jW jX jY jZ j1 j3 j4 j6 j7 j8 j9 kA kB kC kD kE kF kG kH K2_ a2_ wc _ _ _ _ _ _ _ _ _ _ _ _ _ _ _ _ _ _ _ _ _ _ _ _ _ _ _ _ _ _ _ _ _ _ _ _ _ _ _ _ _ _ _ _ _ _ _ _ _ _ _ _ _ _ _ _ _ _ _ _ _ _ _ _ _ _ _ _ _ _ _ _ _ _ _ _ _ _ _ _ _ _ _ _ _ _ _ _ _ _ _ _ _ _ _ _ _ _ _ _ _ _ _ _ _ _ _ _ _ _ _ _ _ _ _ _ _ _ _ _ _ _ _ _ _ _ _ _ _ _ _ _ _ _ _ _ _ _ _ _ _ _ _ _ _ _ _ _ _ _ _ _ _ _ _ _ _ _ _ _ _ _ _ _ _ _ _ _ _ _ _ _ _ _ _ _ _ _ _ _ _ _ _ _ _ _ _ _ _ _ hcut
 clear mX;obtain ⟨kq,dZ,d0,bE,bF,HA,HJ22,aB,aA,HI0,HK,HB⟩:=hcut
 cases kq with
 | zero => exact absurd HA.out (by simp [spec_source_tmpl.j2])
 | succ jA =>
  have H:=HA.out;clear HA;simp only [spec_source_tmpl.j2] at H;replace H:=bS H;obtain ⟨⟨cC,rS,rT⟩,mH,H⟩:=H
  try dsimp only at H
  have E2:=A_ mH;clear mH;replace H:=bS H;obtain ⟨⟨nM,rU,rV⟩,mI,H⟩:=H
  try dsimp only at H
  have E3:=A_ mI;clear mI;replace H:=bS H;obtain ⟨⟨bL,k1,k4⟩,mJ,H⟩:=H
  try dsimp only at H
  have E4:=A_ mJ;clear mJ;have H':=A_ H;clear H
  go_wp2_with (first | ((with_reducible refine gate_callee (f:=12) rfl ?_);refine gL 148 Try.func12 #[.pointer (some ⟨g,0,none⟩),.int .i64 5] ?_;(with_reducible refine (spec_source_pick.calls jA g bA dZ d0 5 cC rS rT w0 _ ?s1 ?s2 E2.out).mono ?_);(case s1 => exact Z11);(case s2 => exact Z20);rintro e IW ⟨rfl,hi,hb,hk⟩;refine ⟨_,rfl,?_⟩;replace aB:=A_ (kB_ hk a7.out aB.out);replace aA:=A_ (kB_ hk a8.out aA.out);replace HK:=A_ (kt (Z4 GW687.out GW689.out) hk (.inl rfl));replace HB:=A_ hb;replace HI0:=A_ hi;(try clear hb)) | ((with_reducible refine gate_callee (f:=12) rfl ?_);refine gL 155 Try.func12 #[.pointer (some ⟨g,0,none⟩),.int .i64 4] ?_;(with_reducible refine (spec_source_pick.calls jA g bA rS rT 4 nM rU rV w0 _ ?s1 ?s2 E3.out).mono ?_);(case s1 => exact Z11);(case s2 => exact Z20);rintro e IX ⟨rfl,hi,hb,hk⟩;refine ⟨_,rfl,?_⟩;replace aB:=A_ (kB_ hk a7.out aB.out);replace aA:=A_ (kB_ hk a8.out aA.out);replace HK:=A_ (kt (Z4 GW687.out GW689.out) hk (.inl rfl));replace HB:=A_ hb;replace HI0:=A_ hi;(try clear hb)) | ((with_reducible refine gate_callee (f:=34) rfl ?_);refine gL 156 Try.func34 #[.pointer (some ⟨g,0,none⟩),.slice (some dK) l1.length c1,.int .i64 a2,.int .i64 a3,.int .i64 a4,.int .i64 nM,.int .i64 0] ?_;(with_reducible refine (IK jA Z48 g bA rU rV _ _ l1 a2 a3 a4 nM 0 bL k1 k4 w0 _ ?s1 ?s2 ?s3 mV.out E4.out).mono ?_);(case s1 => exact Z11);(case s2 => exact Z20);(case s3 => exact Kd.C_foot_step jU.out (Z4 GW687.out GW689.out));rintro e IY ⟨IZ,rfl,b2,hi,hb,hk⟩;refine ⟨_,rfl,?_⟩;have gN:=A_ (Kd.N_lower (Nm (ok':=fun k_ => (w.heap.size ≤ k_) ∧ k_ ≠ aE ∧ k_ ≠ aC ∧ k_ ≠ g) b2 (fun k_ hk_ => ⟨(Nat.le_trans (keep_size (w:=w) (g:=g) (row:=none) (Z4 GW687.out GW689.out)) hk_),(Kd.freshB (Z1 aB.out) k_ hk_),(Kd.freshB (Z1 aA.out) k_ hk_),(IsS52.fresh Z11 k_ hk_)⟩)) (keep_size (w:=w) (g:=g) (row:=none) (Z4 GW687.out GW689.out)));replace aB:=A_ (kB_ hk a7.out aB.out);replace aA:=A_ (kB_ hk a8.out aA.out);replace HK:=A_ (kt (Z4 GW687.out GW689.out) hk (.inl rfl));replace HB:=A_ hb;replace HI0:=A_ hi;(try clear hb);(try clear b2);obtain ⟨bG,bH,rW⟩:=Kd.N_slice gN.out;subst rW) | ((with_reducible refine gate_dst (N:=16) rfl ?_);(try (refine gate_guard (by rfl) ?_;dsimp only));refine be (cs:=#[.int .i64 0,.int .i64 0,.slice none 0 0,.slice none 0 0,.slice none 0 0,.slice none 0 0,.slice none 0 0]) (t:=46) ?_;intro aK hg I0 hbox hb;replace gN:=A_ (Kd.N_below (Kd.N_elderB (Z21 gN.out) aK (Nat.le_of_eq hg.symm)) hb);replace HB:=A_ (bst Z20 hb);have aG:=A_ hbox;have GW790:=A_ ((by rw [hg];exact (keep_size (w:=w) (g:=g) (row:=none) (Z4 GW687.out GW689.out)) : w.heap.size ≤ aK));have GE790:=A_ ((Nat.le_trans k9.out (by rw [hg];exact (keep_size (w:=w) (g:=g) (row:=none) (Z4 GW687.out GW689.out)) : w.heap.size ≤ aK) : w0.heap.size ≤ aK));replace HK:=A_ (kt (Z4 GW687.out GW689.out) (kb hb g none) (.inl rfl));have bU:=A_ ((by rw [hg];exact nl (blk_lt (Z1 aB.out)) : aE ≠ aK));have cO:=A_ ((by rw [hg];exact Nat.ne_of_gt (blk_lt (Z1 aB.out)) : aK ≠ aE));replace aB:=A_ (bb (Z1 aB.out) hb);have bO:=A_ ((by rw [hg];exact nl (blk_lt (Z1 aA.out)) : aC ≠ aK));have cG:=A_ ((by rw [hg];exact Nat.ne_of_gt (blk_lt (Z1 aA.out)) : aK ≠ aC));replace aA:=A_ (bb (Z1 aA.out) hb);have NB0_790:=A_ ((by rw [hg];exact nl (IsS52.lt (show IsS52 w0 _ g bA k1 k4 from Z11)) : g ≠ aK));have cE:=A_ ((by rw [hg];exact Nat.ne_of_gt (IsS52.lt (show IsS52 w0 _ g bA k1 k4 from Z11)) : aK ≠ g));replace HI0:=A_ (IsS52.below Z11 hb);clear hb hbox hg;have E5:=cO.out;have E6:=bU.out;have E7:=cG.out;have E8:=bO.out;have E9:=cE.out;have FA:=NB0_790.out;obtain ⟨jB,jC,jD,jE,jF,jG,jH,jI,jJ,jK,jL,jM,jN,jO⟩:=C7 aG.out))
  go_loopg [17] jA (fun kq I1 w' => ∃ (d2 : Int) (bR : Int) (bT : Int) (bK : List Int) (bJ : List (List (S70))) (u791002 : Value) (u791003 : Value),I1 = .int .i64 d2 ∧ Aside0 (spec_source_tmpl.l1 kq a4 d2 bA bR bT ((rd_T48 l1 a2).f0) ((rd_T48 l1 a2).f1) ((rd_T48 l1 a2).f2) ((rd_T48 l1 a2).f3.f0) ((rd_T48 l1 a2).f3.f1) ((rd_T48 l1 a2).f3.f2) ((rd_T48 l1 a2).f3.f3) ((rd_T48 l1 a2).f3.f4) ((rd_T48 l1 a2).f3.f5) ((rd_T48 l1 a2).f3.f6) 1 cC bK bJ bL = some (r1,r2,r3,r4,r5,r6,r7,r8,r9)) ∧ Aside0 (kq ≤ jA) ∧ Aside0 (Kd.R (Kd.int .i64) 3 w' w.heap.size (fun k_ => (w.heap.size ≤ k_)) u791002 bK) ∧ Aside0 (Kd.N (Kd.slice 70 k70) 42 w' w.heap.size (fun k_ => (w.heap.size ≤ k_) ∧ some k_ ≠ (u791002 : Value).ownBlock ∧ some k_ ≠ ((.slice bG bL.length bH) : Value).ownBlock ∧ k_ ≠ aE ∧ k_ ≠ aC ∧ k_ ≠ aK ∧ k_ ≠ g) u791003 bJ) ∧ Aside0 (Kd.N k46 46 w' w.heap.size (fun k_ => (w.heap.size ≤ k_) ∧ some k_ ≠ (u791002 : Value).ownBlock ∧ some k_ ≠ (u791003 : Value).ownBlock ∧ k_ ≠ aE ∧ k_ ≠ aC ∧ k_ ≠ aK ∧ k_ ≠ g) (.slice bG bL.length bH) bL) ∧ Aside0 (w'.heap[aE]? = some (.cells #[.int .i64 bE,.int .i64 bF,(.slice none 0 0),(.slice none 0 0),(.slice none 0 0),(.slice none 0 0),(.slice none 0 0)] 46 (0,0))) ∧ Aside0 (w'.heap[aC]? = some (.cells #[.int .i64 ((rd_T48 l1 a2).f0),(.slice aM ((rd_T48 l1 a2).f1).length aN),(.slice aQ ((rd_T48 l1 a2).f2).length aR),.int .i64 ((rd_T48 l1 a2).f3.f0),.int .i64 ((rd_T48 l1 a2).f3.f1),(.slice aT ((rd_T48 l1 a2).f3.f2).length aU),(.slice aV ((rd_T48 l1 a2).f3.f3).length aW),(.slice aX ((rd_T48 l1 a2).f3.f4).length aY),(.slice aZ ((rd_T48 l1 a2).f3.f5).length a0),(.slice a5 ((rd_T48 l1 a2).f3.f6).length a6)] 48 (0,0))) ∧ Aside0 (w'.heap[aK]? = some (.cells #[.int .i64 1,.int .i64 cC,u791002,u791003,(.slice none 0 0),(.slice none 0 0),(.slice bG bL.length bH)] 46 (0,0))) ∧ Aside0 (IsS52 w0 w' g bA bR bT) ∧ Aside0 (KeepBut w w' g none) ∧ Aside0 (Below w0.heap.size w0 w'))
  case atStart => exact ⟨(0),(k1),(k4),(([] : List Int)),(([] : List (List (S70)))),(.slice none 0 0),(.slice none 0 0),Z22,H',⟨Nat.le_refl _⟩,⟨Z29⟩,⟨by first | exact Kd.S_nil _ _ _ _ _ | exact Kd.N_nil _ _ _ _ _ | exact Kd.V_nil _ _ _ _ _ | exact Kd.Q_nil _ _ _ _ _ | exact Kd.R_nil _ _ _ _ _⟩,⟨by (with_reducible repeat (first | apply Kd.N_alloc | apply Kd.N_drewN | apply Kd.N_drew));exact Nm (Nf (Nf (Nf (Nf (Nf (Nf (Nf (Nm gN.out (fun k_ hk => (⟨hk,hk.2⟩ : _ ∧ k_ ≠ aK)))))))))) (fun _ hk => ⟨hk.1.1.1,⟨(by simp [Value.ownBlock]),⟨(by simp [Value.ownBlock]),⟨hk.1.1.2.1,⟨hk.1.1.2.2.1,⟨hk.1.2,hk.1.1.2.2.2⟩⟩⟩⟩⟩⟩)⟩,⟨Z14 bU.out aB.out⟩,⟨Z14 bO.out aA.out⟩,⟨bp0 aG.out⟩,⟨Z24⟩,⟨Z23⟩,⟨Z27⟩⟩
  case round =>
   clear H' jB jC jD jE jF jG jH jI jJ jK jL jM jN jO;obtain ⟨d2,bR,bT,bK,bJ,u791002,u791003,rfl,HA,HK2,aJ,aH,aI,aB,aA,aG,HI0,HK,HB⟩:=hrel
   cases gk with
   | zero => exact absurd HA.out (by simp [spec_source_tmpl.l1])
   | succ k2 =>
    have H:=HA.out;clear HA;simp only [spec_source_tmpl.l1] at H
    by_cases gY : d2 < 4
    ·rw [if_pos gY] at H
     have jP:=dt gY;clear gY;replace H:=bS H;obtain ⟨⟨fG,gZ,hD⟩,mK,H⟩:=H
     try dsimp only at H
     have rX:=A_ mK;clear mK
     by_cases fH : fG = 0
     ·rw [if_pos fH] at H
      have nN:=e_t fH;have nO:=n_f fH;clear fH
      by_cases k5 : bK.length < 17592186044416
      ·rw [if_pos k5] at H
       have nP:=A_ k5;clear k5;obtain ⟨cA,gO⟩ : ∃ y_ : List Int,y_ = (bK ++ [d2]):=⟨_,rfl⟩
       first | rw [← gO,Option.bind_some] at H | rw [← gO] at H
       have rY:=A_ gO;clear gO;replace H:=bS H;obtain ⟨⟨jQ,rZ,sA⟩,mL,H⟩:=H
       try dsimp only at H
       have FB:=A_ mL;clear mL
       by_cases k6 : bJ.length < 5864062014805
       ·rw [if_pos k6] at H
        have nQ:=A_ k6;clear k6;obtain ⟨sB,gP⟩ : ∃ y_ : List (List (S70)),y_ = (bJ ++ [jQ]):=⟨_,rfl⟩
        first | rw [← gP,Option.bind_some] at H | rw [← gP] at H
        have sC:=A_ gP;clear gP;have H':=A_ H;clear H
        try go_wp2_with (first | ((with_reducible refine gate_callee (f:=12) rfl ?_);refine gL 163 Try.func12 #[.pointer (some ⟨g,0,none⟩),.int .i64 3] ?_;(with_reducible refine (spec_source_pick.calls k2 g bA bR bT 3 fG gZ hD w0 _ ?s1 ?s2 rX.out).mono ?_);(case s1 => exact Z24);(case s2 => exact Z27);rintro e I2 ⟨rfl,hi,hb,hk⟩;refine ⟨_,rfl,?_⟩;replace aJ:=A_ (Rm (Kd.R_keep (IsS52.apart (show IsS52 w0 _ g bA bR bT from Z24) (Z17 aJ.out) (by decide)) hk (fun _ h => h.2)) (fun _ h => h.1));replace aH:=A_ (Nm (Kd.N_keep (Nm (ok:=fun k_ => (((w.heap.size ≤ k_)) ∧ (some k_ ≠ (u791002 : Value).ownBlock ∧ (ob k_ bG bL bH ∧ (k_ ≠ aE ∧ (k_ ≠ aC ∧ (k_ ≠ aK ∧ k_ ≠ g))))))) (Z21 aH.out) (fun k_ hk_ => (⟨hk_,hk_.2.2.2.2.2.2⟩ : _ ∧ k_ ≠ g))) hk (fun _ h => h.2)) (fun _ h => h.1));replace aI:=A_ (Nm (Kd.N_keep (Nm (ok:=fun k_ => (((w.heap.size ≤ k_)) ∧ (some k_ ≠ (u791002 : Value).ownBlock ∧ (some k_ ≠ (u791003 : Value).ownBlock ∧ (k_ ≠ aE ∧ (k_ ≠ aC ∧ (k_ ≠ aK ∧ k_ ≠ g))))))) (Z21 aI.out) (fun k_ hk_ => (⟨hk_,hk_.2.2.2.2.2.2⟩ : _ ∧ k_ ≠ g))) hk (fun _ h => h.2)) (fun _ h => h.1));replace aB:=A_ (kB_ hk a7.out aB.out);replace aA:=A_ (kB_ hk a8.out aA.out);replace aG:=A_ (kB_ hk cE.out aG.out);replace HK:=A_ (kt Z23 hk (.inl rfl));replace HB:=A_ hb;replace HI0:=A_ hi;(try clear hb);have FC:=cO.out;have FD:=bU.out;have FE:=cG.out;have FF:=bO.out;have FG:=cE.out;have FH:=NB0_790.out;obtain ⟨sD,sE,sF,sG,sH,sI,sJ,sK,sL,sM,sN,sO,sP,sQ⟩:=C7 aG.out) | ((with_reducible refine gate_builtin (b:=.append) (xs:=#[.tmp 166,.tmp 168]) rfl ?_);(try (refine gate_guard (by rfl) ?_;dsimp only));at_builtin;refine Kd.R_append (Kd.int .i64) w.heap.size rfl (.tmp 166) (.tmp 168) 26 3 (.int .i64 0) 8 rfl Try.underlying26 info3 rfl (by decide) (by omega) u791002 bK d2 [.int .i64 d2] (fun k_ => (w.heap.size ≤ k_)) (fun _ => False) rfl rfl ?aP (fun _ hk => hk.elim) ?aF ?aO (Below.refl _ _) ?aS ?aL ?_;(case aP => exact rfl);(case aF => exact (fun k_ hk => (Nat.le_trans (keep_size (w:=w) (g:=g) (row:=none) Z23) hk)));(case aO => exact (Z17 aJ.out));(case aS => exact (keep_size (w:=w) (g:=g) (row:=none) Z23));(case aL => have:=nP.out;omega);intro I3 eN ho hb hg hat;rw [← rY.out] at ho;replace aH:=A_ (Kd.N_afterv (ok:=(fun k_ => (w.heap.size ≤ k_) ∧ ob k_ bG bL bH ∧ k_ ≠ aE ∧ k_ ≠ aC ∧ k_ ≠ aK ∧ k_ ≠ g)) (by (with_reducible repeat (first | apply Kd.N_alloc | apply Kd.N_drewN | apply Kd.N_drew));exact Nm aH.out (fun _ hk => ⟨⟨hk.1,⟨hk.2.2.1,⟨hk.2.2.2.1,⟨hk.2.2.2.2.1,⟨hk.2.2.2.2.2.1,hk.2.2.2.2.2.2⟩⟩⟩⟩⟩,hk.2.1⟩)) hg hat);replace aI:=A_ (Kd.N_afterv (ok:=(fun k_ => (w.heap.size ≤ k_) ∧ some k_ ≠ (u791003 : Value).ownBlock ∧ k_ ≠ aE ∧ k_ ≠ aC ∧ k_ ≠ aK ∧ k_ ≠ g)) (by (with_reducible repeat (first | apply Kd.N_alloc | apply Kd.N_drewN | apply Kd.N_drew));exact Nm aI.out (fun _ hk => ⟨⟨hk.1,⟨hk.2.2.1,⟨hk.2.2.2.1,⟨hk.2.2.2.2.1,⟨hk.2.2.2.2.2.1,hk.2.2.2.2.2.2⟩⟩⟩⟩⟩,hk.2.1⟩)) hg hat);replace aB:=A_ (blk_grown (Z1 aB.out) hg (Kd.R_ne aJ.out aB.out (by decide)));replace aA:=A_ (blk_grown (Z1 aA.out) hg (Kd.R_ne aJ.out aA.out (by decide)));replace aG:=A_ (blk_grown (Z1 aG.out) hg (Kd.R_ne aJ.out aG.out (by decide)));replace HB:=A_ (below_weaken Z27 HL.out hb);replace HI0:=A_ (IsS52.grown Z24 hg (IsS52.own_ne HI0.out aJ.out (by decide)));replace HK:=A_ (kt Z23 (KeepBut.of_grown hg g) (Kd.R_base2 aJ.out));have b8:=A_ ho;clear aJ;clear ho hb hg hat;obtain ⟨bM,bN,sR⟩:=Kd.R_slice b8.out;subst sR;obtain ⟨sS,sT,sU,sV,sW,sX,sY,sZ,tA,tB,tC,tD,tE,tF⟩:=C7 aG.out))
        have bW : Aside0 (Kd.N (Kd.slice 70 k70) 42 (eN.setCell ⟨aK,2,none⟩ (.slice bM cA.length bN)) w.heap.size (fun k_ => (w.heap.size ≤ k_) ∧ ob k_ bG bL bH ∧ ob k_ bM cA bN ∧ k_ ≠ aE ∧ k_ ≠ aC ∧ k_ ≠ aK ∧ k_ ≠ g) u791003 bJ):=⟨by (with_reducible repeat (first | apply Kd.N_alloc | apply Kd.N_drewN | apply Kd.N_drew));exact Nm (Nf (Nm aH.out (fun k_ hk => (⟨hk,hk.1.2.2.2.2.1⟩ : _ ∧ k_ ≠ aK)))) (fun _ hk => ⟨hk.1.1.1,⟨hk.1.1.2.1,⟨hk.1.2,⟨hk.1.1.2.2.1,⟨hk.1.1.2.2.2.1,⟨hk.1.1.2.2.2.2.1,hk.1.1.2.2.2.2.2⟩⟩⟩⟩⟩⟩)⟩;have bX : Aside0 (Kd.N k46 46 (eN.setCell ⟨aK,2,none⟩ (.slice bM cA.length bN)) w.heap.size (fun k_ => (w.heap.size ≤ k_) ∧ some k_ ≠ (u791003 : Value).ownBlock ∧ ob k_ bM cA bN ∧ k_ ≠ aE ∧ k_ ≠ aC ∧ k_ ≠ aK ∧ k_ ≠ g) (.slice bG bL.length bH) bL):=⟨by (with_reducible repeat (first | apply Kd.N_alloc | apply Kd.N_drewN | apply Kd.N_drew));exact Nm (Nf (Nm aI.out (fun k_ hk => (⟨hk,hk.1.2.2.2.2.1⟩ : _ ∧ k_ ≠ aK)))) (fun _ hk => ⟨hk.1.1.1,⟨hk.1.1.2.1,⟨hk.1.2,⟨hk.1.1.2.2.1,⟨hk.1.1.2.2.2.1,⟨hk.1.1.2.2.2.2.1,hk.1.1.2.2.2.2.2⟩⟩⟩⟩⟩⟩)⟩;have bY : Aside0 (Kd.R (Kd.int .i64) 3 (eN.setCell ⟨aK,2,none⟩ (.slice bM cA.length bN)) w.heap.size (fun k_ => (w.heap.size ≤ k_)) (.slice bM cA.length bN) cA):=⟨Z54 b8.out aG.out⟩;have bZ : Aside0 ((eN.setCell ⟨aK,2,none⟩ (.slice bM cA.length bN)).heap[aE]? = some (.cells #[.int .i64 bE,.int .i64 bF,.slice none 0 0,.slice none 0 0,.slice none 0 0,.slice none 0 0,.slice none 0 0] 46 (0,0))):=⟨Z38 bU.out aB.out⟩;have b0 : Aside0 ((eN.setCell ⟨aK,2,none⟩ (.slice bM cA.length bN)).heap[aC]? = some (.cells #[.int .i64 ((rd_T48 l1 a2).f0),.slice aM ((rd_T48 l1 a2).f1).length aN,.slice aQ ((rd_T48 l1 a2).f2).length aR,.int .i64 ((rd_T48 l1 a2).f3.f0),.int .i64 ((rd_T48 l1 a2).f3.f1),.slice aT ((rd_T48 l1 a2).f3.f2).length aU,.slice aV ((rd_T48 l1 a2).f3.f3).length aW,.slice aX ((rd_T48 l1 a2).f3.f4).length aY,.slice aZ ((rd_T48 l1 a2).f3.f5).length a0,.slice a5 ((rd_T48 l1 a2).f3.f6).length a6] 48 (0,0))):=⟨Z38 bO.out aA.out⟩;have b3 : Aside0 ((eN.setCell ⟨aK,2,none⟩ (.slice bM cA.length bN)).heap[aK]? = some (.cells #[.int .i64 1,.int .i64 cC,.slice bM cA.length bN,u791003,.slice none 0 0,.slice none 0 0,.slice bG bL.length bH] 46 (0,0))):=⟨bp0 aG.out⟩
        have cK : Aside0 (IsS52 w0 (eN.setCell ⟨aK,2,none⟩ (.slice bM cA.length bN)) g bA gZ hD):=⟨Z24⟩;have eB : Aside0 (KeepBut w (eN.setCell ⟨aK,2,none⟩ (.slice bM cA.length bN)) g none):=⟨Z23⟩;have eO : Aside0 (Below w0.heap.size w0 (eN.setCell ⟨aK,2,none⟩ (.slice bM cA.length bN))):=⟨Z27⟩;(try clear aH);(try clear aI);(try clear b8);(try clear aB);(try clear aA);(try clear aG);(try clear HI0);(try clear HK);(try clear HB);generalize (eN.setCell ⟨aK,2,none⟩ (.slice bM cA.length bN)) = FI at bW bX bY bZ b0 b3 cK eB eO ⊢;have aH:=bW;have aI:=bX;have b8:=bY;have aB:=bZ;have aA:=b0;have aG:=b3;have HI0:=cK;have HK:=eB;have HB:=eO;clear bW bX bY bZ b0 b3 cK eB eO;have bW:=A_ (Kd.N_drew aH.out);have bX:=A_ (Kd.N_drew aI.out);have bY:=A_ (Kd.R_drew b8.out);have bZ:=A_ (blk_drew aB.out);have b0:=A_ (blk_drew aA.out);have b3:=A_ (blk_drew aG.out);have cK:=A_ (IsS52.drew HI0.out);have eB:=A_ (keep_drew HK.out);have eO:=A_ (below_drew1 HB.out);clear aH aI b8 aB aA aG HI0 HK HB;have aH:=bW;have aI:=bX;have b8:=bY;have aB:=bZ;have aA:=b0;have aG:=b3;have HI0:=cK;have HK:=eB;have HB:=eO;clear bW bX bY bZ b0 b3 cK eB eO
        refine start_ (n:=10) (S:=fun w' => P_7_ w' aK (.int .i64 1) (.int .i64 cC) (.slice bM cA.length bN) u791003 (.slice none 0 0) (.slice none 0 0) (.slice bG bL.length bH) (P_10 w' aC (.int .i64 ((rd_T48 l1 a2).f0)) (.slice aM ((rd_T48 l1 a2).f1).length aN) (.slice aQ ((rd_T48 l1 a2).f2).length aR) (.int .i64 ((rd_T48 l1 a2).f3.f0)) (.int .i64 ((rd_T48 l1 a2).f3.f1)) (.slice aT ((rd_T48 l1 a2).f3.f2).length aU) (.slice aV ((rd_T48 l1 a2).f3.f3).length aW) (.slice aX ((rd_T48 l1 a2).f3.f4).length aY) (.slice aZ ((rd_T48 l1 a2).f3.f5).length a0) (.slice a5 ((rd_T48 l1 a2).f3.f6).length a6))) (ds:=[9]) #[F,F,F,F,F,F,F,F,F,F] (by kernel_rfl) rfl rfl (D_7_ aG.out (D_10 aA.out)) (fun hHeld => ?_);refine with_tabW spec_source_tmpl.tab32 spec_source_tmpl.bits32 (fun HT_ HW_ => ?_)
        generalize FI.drew = I4 at aH aI b8 aB aA aG HI0 HK HB hHeld ⊢;refine pU 0 171 #[T,F,F,F,F,F,F,F,F,F] ?_;refine pU 2 173 #[T,F,T,F,F,F,F,F,F,F] ?_;refine pU 4 175 #[T,F,T,F,T,F,F,F,F,F] ?_;refine tU 1 172 #[T,T,T,F,T,F,F,F,F,F] ?_ (y:=Z39);refine tU 3 174 #[T,T,T,T,T,F,F,F,F,F] ?_ (y:=Z39)
        refine oU 5 (some 176) #[T,T,T,T,T,T,F,F,F,F] (fun K hK => ?_)
        refine goes_ Try.func33 (by kernel_rfl) rfl #[.pointer (some ⟨g,0,none⟩),.agg #[.int .i64 ((rd_T48 l1 a2).f0),.slice aM ((rd_T48 l1 a2).f1).length aN,.slice aQ ((rd_T48 l1 a2).f2).length aR,.int .i64 ((rd_T48 l1 a2).f3.f0),.int .i64 ((rd_T48 l1 a2).f3.f1),.slice aT ((rd_T48 l1 a2).f3.f2).length aU,.slice aV ((rd_T48 l1 a2).f3.f3).length aW,.slice aX ((rd_T48 l1 a2).f3.f4).length aY,.slice aZ ((rd_T48 l1 a2).f3.f5).length a0,.slice a5 ((rd_T48 l1 a2).f3.f6).length a6],.int .i64 a4,.int .i64 3] (by rfl) rfl rfl Z25 ?_
        with_reducible refine (spec_source_formOf.calls k2 g bA gZ hD ((rd_T48 l1 a2).f0) _ _ ((rd_T48 l1 a2).f1) _ _ ((rd_T48 l1 a2).f2) ((rd_T48 l1 a2).f3.f0) ((rd_T48 l1 a2).f3.f1) _ _ ((rd_T48 l1 a2).f3.f2) _ _ ((rd_T48 l1 a2).f3.f3) _ _ ((rd_T48 l1 a2).f3.f4) _ _ ((rd_T48 l1 a2).f3.f5) _ _ ((rd_T48 l1 a2).f3.f6) a4 3 jQ rZ sA w0 _ ?s1 ?s2 ?s3 ?s4 ?s5 ?s6 ?s7 ?s8 ?s9 ?s10 ?s11 ?s12 ?s13 ?s14 ?s15 ?s16 ?s17 FB.out).mono ?_
        (case s1 => exact Z24)
        (case s2 => exact Z27)
        (case s3 => exact Kd.C_foot_step cP.out Z23)
        (case s4 => exact cQ.out)
        (case s5 => exact Kd.C_foot_step cR.out Z23)
        (case s6 => exact cS.out)
        (case s7 => exact Kd.C_foot_now bQ.out Z23)
        (case s8 => exact cT.out)
        (case s9 => exact Z69 bQ.out)
        (case s10 => exact Kd.C_foot_step cU.out Z23)
        (case s11 => exact cV.out)
        (case s12 => exact Kd.C_foot_step cW.out Z23)
        (case s13 => exact cX.out)
        (case s14 => exact Kd.C_foot_step cY.out Z23)
        (case s15 => exact cZ.out)
        (case s16 => exact Kd.C_foot_step dA.out Z23)
        (case s17 => exact dB.out)
        rintro e I5 ⟨I6,rfl,b2,hi,hb,hk⟩
        refine ⟨_,rfl,?_⟩
        have bW:=A_ (Nm (Kd.N_told (Kd.N_oldK (Nm (ok:=fun k_ => (((w.heap.size ≤ k_)) ∧ (ob k_ bG bL bH ∧ (ob k_ bM cA bN ∧ (k_ ≠ aE ∧ (k_ ≠ aC ∧ (k_ ≠ aK ∧ k_ ≠ g))))))) (Z21 aH.out) (fun k_ hk_ => (⟨hk_,hk_.2.2.2.2.2.2⟩ : _ ∧ k_ ≠ g))) hk) (Kd.R_base b2)) (fun _ h_ => h_.1));have bX:=A_ (Nm (Kd.N_told (Kd.N_oldK (Nm (ok:=fun k_ => (((w.heap.size ≤ k_)) ∧ (some k_ ≠ (u791003 : Value).ownBlock ∧ (ob k_ bM cA bN ∧ (k_ ≠ aE ∧ (k_ ≠ aC ∧ (k_ ≠ aK ∧ k_ ≠ g))))))) (Z21 aI.out) (fun k_ hk_ => (⟨hk_,hk_.2.2.2.2.2.2⟩ : _ ∧ k_ ≠ g))) hk) (Kd.R_base b2)) (fun _ h_ => h_.1));have bY:=A_ (kB_ hk a7.out aB.out);have bZ:=A_ (kB_ hk a8.out aA.out);have b0:=A_ (kB_ hk cE.out aG.out);have b3:=A_ (Rm (Kd.R_keep (IsS52.apart (show IsS52 w0 _ g bA gZ hD from Z24) (Z17 b8.out) (by decide)) hk (fun _ h => h.2)) (fun _ h => h.1));have cK:=A_ (Kd.R_lower (Kd.R_newM (M:=fun k_ => (w.heap.size ≤ k_)) b2 (keep_size (w:=w) (g:=g) (row:=none) Z23) (fun k_ h_ => h_)) (keep_size (w:=w) (g:=g) (row:=none) Z23));have eB:=A_ (kt Z23 hk (.inl rfl));have eO:=A_ (hb);have jR:=A_ (hi);clear aH aI aB aA aG b8 HK HB HI0;have aH:=bW;have aI:=bX;have aB:=bY;have aA:=bZ;have aG:=b0;have b8:=b3;have gQ:=cK;have HK:=eB;have HB:=eO;have HI0:=jR;clear bW bX bY bZ b0 b3 cK eB eO jR;(try clear hb);(try clear k0);(try clear hk);(try clear hi);(try clear b2);obtain ⟨mM,mN,mO⟩:=Kd.R_slice gQ.out;(first | subst mO | (injection mO with cI dG cJ;have dH:=cI.symm;have dI:=cJ.symm;clear cI dG cJ;subst dH;subst dI))
        refine hK.out _ _ (D_7_ aG.out (D_10 aA.out)) (fun hHeld => ?_)
        clear hK K
        refine norm_ (a':=?_) ?_ ?_
        rotate_left
        ·show Act.put _ (some 176) _ = _
         simp only [Act.put,List.setIfInBounds_toArray,List.set_cons_zero,List.set_cons_succ,i64_w,i32_w]
         rfl
        refine oU 6 (some 177) #[T,T,T,T,T,T,T,F,F,F] (fun K hK => ?_)
        refine value_ (w1:=?_) (v:=?_) (by rfl) rfl ?_ ?_
        rotate_left 2
        ·go_simp
         constructor
         ·rfl
         ·rfl
        refine hK.out _ _ (D_7_ (ba aG.out _) (D_10 (ba aA.out _))) (fun hHeld => ?_)
        clear hK K
        refine norm_ (a':=?_) ?_ ?_
        rotate_left
        ·show Act.put _ (some 177) _ = _
         simp only [Act.put,List.setIfInBounds_toArray,List.set_cons_zero,List.set_cons_succ,i64_w,i32_w]
         rfl
        refine oU 7 (some 178) #[T,T,T,T,T,T,T,T,F,F] (fun K hK => ?_)
        refine Kd.N_append_step (Kd.slice 70 k70) w.heap.size (by rfl) (.tmp 172) (.tmp 177) 41 42 (.slice none 0 0) 24 rfl Try.underlying41 info42 rfl (by decide) (by omega) u791003 bJ jQ [.slice mM jQ.length mN] (fun k_ => (w.heap.size ≤ k_) ∧ ob k_ bG bL bH ∧ ob k_ bM cA bN ∧ k_ ≠ aE ∧ k_ ≠ aC ∧ k_ ≠ aK ∧ k_ ≠ g) (fun k_ => ((fun k_ => (w.heap.size ≤ k_) ∧ ob k_ bG bL bH ∧ ob k_ bM cA bN ∧ k_ ≠ aE ∧ k_ ≠ aC ∧ k_ ≠ aK ∧ k_ ≠ g)) k_ ∧ some k_ ≠ (u791003 : Value).ownBlock) rfl rfl ?aP (fun _ hk => hk) ?aF ?aO (Below.refl _ _) ?aS ?aL ?_
        (case aP => exact (Kd.FK_slice_mk (Kd.R_reads' (Rm (ok':=(fun k_ => ((fun k_ => (w.heap.size ≤ k_) ∧ ob k_ bG bL bH ∧ ob k_ bM cA bN ∧ k_ ≠ aE ∧ k_ ≠ aC ∧ k_ ≠ aK ∧ k_ ≠ g)) k_ ∧ some k_ ≠ (u791003 : Value).ownBlock)) (IsS52.apart HI0.out (Kd.R_types (Kd.R_types (Kd.R_types (Kd.R_apart' (Kd.R_apart' (Kd.R_apart' (gQ.out) (Kd.N_typed aI.out) (by decide)) (Kd.R_typed b8.out) (by decide)) (Kd.N_typed aH.out) (by decide)) aB.out (by decide)) aA.out (by decide)) aG.out (by decide)) (by decide)) (fun k_ hk => ⟨⟨hk.1.1.1.1.1.1.1.1,⟨hk.1.1.1.1.1.1.2,⟨hk.1.1.1.1.1.2,⟨hk.1.1.1.2,⟨hk.1.1.2,⟨hk.1.2,hk.2⟩⟩⟩⟩⟩⟩,hk.1.1.1.1.2⟩))).2.1 (Kd.R_F (Rm (ok':=(fun k_ => ((fun k_ => (w.heap.size ≤ k_) ∧ ob k_ bG bL bH ∧ ob k_ bM cA bN ∧ k_ ≠ aE ∧ k_ ≠ aC ∧ k_ ≠ aK ∧ k_ ≠ g)) k_ ∧ some k_ ≠ (u791003 : Value).ownBlock)) (IsS52.apart HI0.out (Kd.R_types (Kd.R_types (Kd.R_types (Kd.R_apart' (Kd.R_apart' (Kd.R_apart' (gQ.out) (Kd.N_typed aI.out) (by decide)) (Kd.R_typed b8.out) (by decide)) (Kd.N_typed aH.out) (by decide)) aB.out (by decide)) aA.out (by decide)) aG.out (by decide)) (by decide)) (fun k_ hk => ⟨⟨hk.1.1.1.1.1.1.1.1,⟨hk.1.1.1.1.1.1.2,⟨hk.1.1.1.1.1.2,⟨hk.1.1.1.2,⟨hk.1.1.2,⟨hk.1.2,hk.2⟩⟩⟩⟩⟩⟩,hk.1.1.1.1.2⟩)))))
        (case aF => exact (fun k_ hk => ⟨(Nat.le_trans (keep_size (w:=w) (g:=g) (row:=none) Z23) hk),Kd.fresh' (Kd.N_lt (Z21 aI.out)) k_ hk,Kd.fresh' (Kd.R_lt (Z17 b8.out)) k_ hk,Kd.freshB (Z1 aB.out) k_ hk,Kd.freshB (Z1 aA.out) k_ hk,Kd.freshB (Z1 aG.out) k_ hk,IsS52.fresh Z24 k_ hk⟩))
        (case aO => exact (by (with_reducible repeat (first | apply Kd.N_alloc | apply Kd.N_drewN | apply Kd.N_drew));exact Nm aH.out (fun _ hk => ⟨hk.1.1,⟨hk.1.2.1,⟨hk.1.2.2.1,⟨hk.1.2.2.2.1,⟨hk.1.2.2.2.2.1,⟨hk.1.2.2.2.2.2.1,hk.1.2.2.2.2.2.2⟩⟩⟩⟩⟩⟩)))
        (case aS => exact (keep_size (w:=w) (g:=g) (row:=none) Z23))
        (case aL => have:=nQ.out;omega)
        intro I7 FJ ho hb hg hat
        rw [← sC.out] at ho;have bW:=A_ (Kd.N_afterv (ok:=(fun k_ => (w.heap.size ≤ k_) ∧ ob k_ bM cA bN ∧ ob k_ mM jQ mN ∧ k_ ≠ aE ∧ k_ ≠ aC ∧ k_ ≠ aK ∧ k_ ≠ g)) (by (with_reducible repeat (first | apply Kd.N_alloc | apply Kd.N_drewN | apply Kd.N_drew));exact Nm aI.out (fun _ hk => ⟨⟨hk.1.1,⟨hk.1.2.2.1,⟨hk.2,⟨hk.1.2.2.2.1,⟨hk.1.2.2.2.2.1,⟨hk.1.2.2.2.2.2.1,hk.1.2.2.2.2.2.2⟩⟩⟩⟩⟩⟩,hk.1.2.1⟩)) hg hat);have bX:=A_ (blk_grown (Z1 aB.out) hg (Kd.N_ne aH.out aB.out (by decide)));have bY:=A_ (blk_grown (Z1 aA.out) hg (Kd.N_ne aH.out aA.out (by decide)));have bZ:=A_ (blk_grown (Z1 aG.out) hg (Kd.N_ne aH.out aG.out (by decide)));have b0:=A_ (IsS52.grown Z24 hg (IsS52.own_neN HI0.out aH.out (by decide)));have b3:=A_ (Kd.R_over' (Z17 b8.out) (Kd.N_typed (Z21 aH.out)) (by decide) hg);have cK:=A_ (below_weaken Z27 HL.out hb);have eB:=A_ (kt Z23 (KeepBut.of_grown hg g) (Kd.N_base2 aH.out));have eO:=A_ (ho);clear aI aB aA aG HI0 b8 HB HK aH gQ;have aI:=bW;have aB:=bX;have aA:=bY;have aG:=bZ;have HI0:=b0;have b8:=b3;have HB:=cK;have HK:=eB;have mP:=eO;clear bW bX bY bZ b0 b3 cK eB eO ho hb hg hat;obtain ⟨tG,tH,mQ⟩:=Kd.N_slice mP.out;(first | subst mQ | (injection mQ with cI dG cJ;have dH:=cI.symm;have dI:=cJ.symm;clear cI dG cJ;subst dH;subst dI))
        refine hK.out _ _ (D_7_ aG.out (D_10 aA.out)) (fun hHeld => ?_)
        clear hK K
        refine norm_ (a':=?_) ?_ ?_
        rotate_left
        ·show Act.put _ (some 178) _ = _
         simp only [Act.put,List.setIfInBounds_toArray,List.set_cons_zero,List.set_cons_succ,i64_w,i32_w]
         rfl
        refine pU 8 179 #[T,T,T,T,T,T,T,T,T,F] ?_
        refine last_ (i:=9) (N:=none) #[T,T,T,T,T,T,T,T,T,T] rfl rfl (one_of HT_.out (by kernel_rfl)) (by decide) (fun K hK => ?_)
        have HX : FJ.cell? ⟨aK,3,none⟩ = some (u791003):=(bc aG.out 3).trans rfl;have FL:=blk_frozen aG.out 3;have tI:=bU.out;have tJ:=bO.out;have tK:=cO.out;have tL:=cG.out
        refine skip_ (w1:=?_) (by rfl) rfl ?_ ?_
        rotate_left
        ·go_simp
         rfl
        refine hK.out _ _ ?_
        clear hK K
        refine done_ (done_of HT_.out (by kernel_rfl)) ?_
        try go_wp2
        go_roundg k2
        case measure => have:=HJ22.out;have:=HK2.out;omega
        case rel => exact ⟨(wrap64 (d2 + 1)),(rZ),(sA),(cA),(sB),(.slice bM cA.length bN),(.slice tG sB.length tH),Z22,H',⟨by have:=HJ22.out;have:=HK2.out;omega⟩,⟨Z54 b8.out aG.out⟩,⟨by (with_reducible repeat (first | apply Kd.N_alloc | apply Kd.N_drewN | apply Kd.N_drew));exact Nm (Nf (Nm mP.out (fun k_ hk => (⟨hk,hk.2.2.2.2.2.1⟩ : _ ∧ k_ ≠ aK)))) (fun _ hk => ⟨hk.1.1,⟨hk.1.2.2.1,⟨hk.1.2.1,⟨hk.1.2.2.2.1,⟨hk.1.2.2.2.2.1,⟨hk.1.2.2.2.2.2.1,hk.1.2.2.2.2.2.2⟩⟩⟩⟩⟩⟩)⟩,⟨by (with_reducible repeat (first | apply Kd.N_alloc | apply Kd.N_drewN | apply Kd.N_drew));exact Nm (Nf (Nm aI.out (fun k_ hk => (⟨hk,hk.1.2.2.2.2.2.1⟩ : _ ∧ k_ ≠ aK)))) (fun _ hk => ⟨hk.1.1.1,⟨hk.1.1.2.1,⟨hk.1.2,⟨hk.1.1.2.2.2.1,⟨hk.1.1.2.2.2.2.1,⟨hk.1.1.2.2.2.2.2.1,hk.1.1.2.2.2.2.2.2⟩⟩⟩⟩⟩⟩)⟩,⟨Z38 bU.out aB.out⟩,⟨Z38 bO.out aA.out⟩,⟨bp0 aG.out⟩,⟨Z24⟩,⟨Z23⟩,⟨Z27⟩⟩
       ·rw [if_neg k6] at H
        exact absurd H (by simp)
      ·rw [if_neg k5] at H
       exact absurd H (by simp)
     ·rw [if_neg fH] at H
      have nN:=e_f fH;have nO:=n_t fH;have H':=A_ H;clear H
      go_wp2_with (first | ((with_reducible refine gate_callee (f:=12) rfl ?_);refine gL 163 Try.func12 #[.pointer (some ⟨g,0,none⟩),.int .i64 3] ?_;(with_reducible refine (spec_source_pick.calls k2 g bA bR bT 3 fG gZ hD w0 _ ?s1 ?s2 rX.out).mono ?_);(case s1 => exact Z24);(case s2 => exact Z27);rintro e I8 ⟨rfl,hi,hb,hk⟩;refine ⟨_,rfl,?_⟩;replace aJ:=A_ (Rm (Kd.R_keep (IsS52.apart (show IsS52 w0 _ g bA bR bT from Z24) (Z17 aJ.out) (by decide)) hk (fun _ h => h.2)) (fun _ h => h.1));replace aH:=A_ (Nm (Kd.N_keep (Nm (ok:=fun k_ => (((w.heap.size ≤ k_)) ∧ (some k_ ≠ (u791002 : Value).ownBlock ∧ (ob k_ bG bL bH ∧ (k_ ≠ aE ∧ (k_ ≠ aC ∧ (k_ ≠ aK ∧ k_ ≠ g))))))) (Z21 aH.out) (fun k_ hk_ => (⟨hk_,hk_.2.2.2.2.2.2⟩ : _ ∧ k_ ≠ g))) hk (fun _ h => h.2)) (fun _ h => h.1));replace aI:=A_ (Nm (Kd.N_keep (Nm (ok:=fun k_ => (((w.heap.size ≤ k_)) ∧ (some k_ ≠ (u791002 : Value).ownBlock ∧ (some k_ ≠ (u791003 : Value).ownBlock ∧ (k_ ≠ aE ∧ (k_ ≠ aC ∧ (k_ ≠ aK ∧ k_ ≠ g))))))) (Z21 aI.out) (fun k_ hk_ => (⟨hk_,hk_.2.2.2.2.2.2⟩ : _ ∧ k_ ≠ g))) hk (fun _ h => h.2)) (fun _ h => h.1));replace aB:=A_ (kB_ hk a7.out aB.out);replace aA:=A_ (kB_ hk a8.out aA.out);replace aG:=A_ (kB_ hk cE.out aG.out);replace HK:=A_ (kt Z23 hk (.inl rfl));replace HB:=A_ hb;replace HI0:=A_ hi;(try clear hb)))
      go_roundg k2
      case measure => have:=HJ22.out;have:=HK2.out;omega
      case rel => exact ⟨(wrap64 (d2 + 1)),(gZ),(hD),(bK),(bJ),(u791002),(u791003),Z22,H',⟨by have:=HJ22.out;have:=HK2.out;omega⟩,⟨Z17 aJ.out⟩,⟨Z21 aH.out⟩,⟨Z21 aI.out⟩,⟨Z1 aB.out⟩,⟨Z1 aA.out⟩,⟨Z1 aG.out⟩,⟨Z24⟩,⟨Z23⟩,⟨Z27⟩⟩
    ·rw [if_neg gY] at H
     have jP:=df gY;clear gY;have H':=A_ H;clear H
     go_wp2
     go_loopg [18] k2 (fun kq I9 w' => ∃ (dE : Int) (b6 : Int) (b7 : Int) (bP : List (S76)) (u791005 : Value),I9 = .int .i64 dE ∧ Aside0 (spec_source_tmpl.l2 kq dE bA b6 b7 ((rd_T48 l1 a2).f0) ((rd_T48 l1 a2).f1) ((rd_T48 l1 a2).f2) ((rd_T48 l1 a2).f3.f0) ((rd_T48 l1 a2).f3.f1) ((rd_T48 l1 a2).f3.f2) ((rd_T48 l1 a2).f3.f3) ((rd_T48 l1 a2).f3.f4) ((rd_T48 l1 a2).f3.f5) ((rd_T48 l1 a2).f3.f6) 1 cC bK bJ bP bL = some (r1,r2,r3,r4,r5,r6,r7,r8,r9)) ∧ Aside0 (kq ≤ k2) ∧ Aside0 (Kd.R (Kd.int .i64) 3 w' w.heap.size (fun k_ => (w.heap.size ≤ k_)) u791002 bK) ∧ Aside0 (Kd.N (Kd.slice 70 k70) 42 w' w.heap.size (fun k_ => (w.heap.size ≤ k_) ∧ some k_ ≠ (u791002 : Value).ownBlock ∧ some k_ ≠ (u791005 : Value).ownBlock ∧ some k_ ≠ ((.slice bG bL.length bH) : Value).ownBlock ∧ k_ ≠ aE ∧ k_ ≠ aC ∧ k_ ≠ aK ∧ k_ ≠ g) u791003 bJ) ∧ Aside0 (Kd.R k76 76 w' w.heap.size (fun k_ => (w.heap.size ≤ k_)) u791005 bP) ∧ Aside0 (Kd.N k46 46 w' w.heap.size (fun k_ => (w.heap.size ≤ k_) ∧ some k_ ≠ (u791002 : Value).ownBlock ∧ some k_ ≠ (u791003 : Value).ownBlock ∧ some k_ ≠ (u791005 : Value).ownBlock ∧ k_ ≠ aE ∧ k_ ≠ aC ∧ k_ ≠ aK ∧ k_ ≠ g) (.slice bG bL.length bH) bL) ∧ Aside0 (w'.heap[aE]? = some (.cells #[.int .i64 bE,.int .i64 bF,(.slice none 0 0),(.slice none 0 0),(.slice none 0 0),(.slice none 0 0),(.slice none 0 0)] 46 (0,0))) ∧ Aside0 (w'.heap[aC]? = some (.cells #[.int .i64 ((rd_T48 l1 a2).f0),(.slice aM ((rd_T48 l1 a2).f1).length aN),(.slice aQ ((rd_T48 l1 a2).f2).length aR),.int .i64 ((rd_T48 l1 a2).f3.f0),.int .i64 ((rd_T48 l1 a2).f3.f1),(.slice aT ((rd_T48 l1 a2).f3.f2).length aU),(.slice aV ((rd_T48 l1 a2).f3.f3).length aW),(.slice aX ((rd_T48 l1 a2).f3.f4).length aY),(.slice aZ ((rd_T48 l1 a2).f3.f5).length a0),(.slice a5 ((rd_T48 l1 a2).f3.f6).length a6)] 48 (0,0))) ∧ Aside0 (w'.heap[aK]? = some (.cells #[.int .i64 1,.int .i64 cC,u791002,u791003,(.slice none 0 0),u791005,(.slice bG bL.length bH)] 46 (0,0))) ∧ Aside0 (IsS52 w0 w' g bA b6 b7) ∧ Aside0 (KeepBut w w' g none) ∧ Aside0 (Below w0.heap.size w0 w'))
     case atStart => exact ⟨(0),(bR),(bT),(([] : List (S76))),(.slice none 0 0),Z22,H',⟨Nat.le_refl _⟩,⟨Z17 aJ.out⟩,⟨by (with_reducible repeat (first | apply Kd.N_alloc | apply Kd.N_drewN | apply Kd.N_drew));exact Nm aH.out (fun _ hk => ⟨hk.1,⟨hk.2.1,⟨(by simp [Value.ownBlock]),⟨hk.2.2.1,⟨hk.2.2.2.1,⟨hk.2.2.2.2.1,⟨hk.2.2.2.2.2.1,hk.2.2.2.2.2.2⟩⟩⟩⟩⟩⟩⟩)⟩,⟨Z29⟩,⟨by (with_reducible repeat (first | apply Kd.N_alloc | apply Kd.N_drewN | apply Kd.N_drew));exact Nm aI.out (fun _ hk => ⟨hk.1,⟨hk.2.1,⟨hk.2.2.1,⟨(by simp [Value.ownBlock]),⟨hk.2.2.2.1,⟨hk.2.2.2.2.1,⟨hk.2.2.2.2.2.1,hk.2.2.2.2.2.2⟩⟩⟩⟩⟩⟩⟩)⟩,⟨Z1 aB.out⟩,⟨Z1 aA.out⟩,⟨Z1 aG.out⟩,⟨Z24⟩,⟨Z23⟩,⟨Z27⟩⟩
     case round =>
      clear H' jP;obtain ⟨dE,b6,b7,bP,u791005,rfl,HA,HK3,aJ,aH,a9,aI,aB,aA,aG,HI0,HK,HB⟩:=hrel
      cases gk with
      | zero => exact absurd HA.out (by simp [spec_source_tmpl.l2])
      | succ k3 =>
       have H:=HA.out;clear HA;simp only [spec_source_tmpl.l2] at H;have jS:=A_ H;clear H
       go_upto_region 34 with (fail)
       go_cut [187] (fun FM wc => ∃ (kq : Nat) (d3 : Bool),FM = .bool d3 ∧ Aside0 (spec_source_tmpl.j5 kq dE d3 bA b6 b7 ((rd_T48 l1 a2).f0) ((rd_T48 l1 a2).f1) ((rd_T48 l1 a2).f2) ((rd_T48 l1 a2).f3.f0) ((rd_T48 l1 a2).f3.f1) ((rd_T48 l1 a2).f3.f2) ((rd_T48 l1 a2).f3.f3) ((rd_T48 l1 a2).f3.f4) ((rd_T48 l1 a2).f3.f5) ((rd_T48 l1 a2).f3.f6) 1 cC bK bJ bP bL = some (r1,r2,r3,r4,r5,r6,r7,r8,r9)) ∧ Aside0 (kq ≤ k3) ∧ Aside0 (Kd.R (Kd.int .i64) 3 wc w.heap.size (fun k_ => (w.heap.size ≤ k_)) u791002 bK) ∧ Aside0 (Kd.N (Kd.slice 70 k70) 42 wc w.heap.size (fun k_ => (w.heap.size ≤ k_) ∧ some k_ ≠ (u791002 : Value).ownBlock ∧ some k_ ≠ (u791005 : Value).ownBlock ∧ some k_ ≠ ((.slice bG bL.length bH) : Value).ownBlock ∧ k_ ≠ aE ∧ k_ ≠ aC ∧ k_ ≠ aK ∧ k_ ≠ g) u791003 bJ) ∧ Aside0 (Kd.R k76 76 wc w.heap.size (fun k_ => (w.heap.size ≤ k_)) u791005 bP) ∧ Aside0 (Kd.N k46 46 wc w.heap.size (fun k_ => (w.heap.size ≤ k_) ∧ some k_ ≠ (u791002 : Value).ownBlock ∧ some k_ ≠ (u791003 : Value).ownBlock ∧ some k_ ≠ (u791005 : Value).ownBlock ∧ k_ ≠ aE ∧ k_ ≠ aC ∧ k_ ≠ aK ∧ k_ ≠ g) (.slice bG bL.length bH) bL) ∧ Aside0 (wc.heap[aE]? = some (.cells #[.int .i64 bE,.int .i64 bF,(.slice none 0 0),(.slice none 0 0),(.slice none 0 0),(.slice none 0 0),(.slice none 0 0)] 46 (0,0))) ∧ Aside0 (wc.heap[aC]? = some (.cells #[.int .i64 ((rd_T48 l1 a2).f0),(.slice aM ((rd_T48 l1 a2).f1).length aN),(.slice aQ ((rd_T48 l1 a2).f2).length aR),.int .i64 ((rd_T48 l1 a2).f3.f0),.int .i64 ((rd_T48 l1 a2).f3.f1),(.slice aT ((rd_T48 l1 a2).f3.f2).length aU),(.slice aV ((rd_T48 l1 a2).f3.f3).length aW),(.slice aX ((rd_T48 l1 a2).f3.f4).length aY),(.slice aZ ((rd_T48 l1 a2).f3.f5).length a0),(.slice a5 ((rd_T48 l1 a2).f3.f6).length a6)] 48 (0,0))) ∧ Aside0 (wc.heap[aK]? = some (.cells #[.int .i64 1,.int .i64 cC,u791002,u791003,(.slice none 0 0),u791005,(.slice bG bL.length bH)] 46 (0,0))) ∧ Aside0 (IsS52 w0 wc g bA b6 b7) ∧ Aside0 (KeepBut w wc g none) ∧ Aside0 (Below w0.heap.size w0 wc))
       case first =>
        have H:=jS.out;clear jS
        by_cases hJ : dE < 3
        ·rw [if_pos hJ] at H
         have eH:=dt hJ;clear hJ;(first | rw [eH] | (simp only [i64_w,i32_w];rw [eH]) | skip);have H':=A_ H;clear H;have FN:=aD.out;have FO:=bC.out;have FP:=bO.out;have FQ:=cG.out;have FR:=a8.out;have FS:=NB0_689.out;obtain ⟨tM,tN,tO,tP,tQ,tR,tS,tT,tV,tW,tX,tY,tZ,t0,t1,t2,t3,t4,t5,t6⟩:=C10 aA.out
         go_wp2
         go_meet
         case rel => exact ⟨_,(decide ((((rd_T48 l1 a2).f2).length : Int) > 0)),Z22,H',⟨by have:=HJ22.out;have:=HK2.out;have:=HK3.out;first | omega | exact Nat.le_refl _⟩,⟨Z17 aJ.out⟩,⟨Z21 aH.out⟩,⟨Z17 a9.out⟩,⟨Z21 aI.out⟩,⟨Z1 aB.out⟩,⟨Z1 aA.out⟩,⟨Z1 aG.out⟩,⟨Z24⟩,⟨Z23⟩,⟨Z27⟩⟩
        ·rw [if_neg hJ] at H
         have eH:=df hJ;clear hJ;(first | rw [eH] | (simp only [i64_w,i32_w];rw [eH]) | skip);have H':=A_ H;clear H
         go_wp2
         go_meet
         case rel => exact ⟨_,(false),Z22,H',⟨by have:=HJ22.out;have:=HK2.out;have:=HK3.out;first | omega | exact Nat.le_refl _⟩,⟨Z17 aJ.out⟩,⟨Z21 aH.out⟩,⟨Z17 a9.out⟩,⟨Z21 aI.out⟩,⟨Z1 aB.out⟩,⟨Z1 aA.out⟩,⟨Z1 aG.out⟩,⟨Z24⟩,⟨Z23⟩,⟨Z27⟩⟩
       case rest =>
        clear jS;obtain ⟨kq,d3,rfl,HA,HJ195,aJ,aH,a9,aI,aB,aA,aG,HI0,HK,HB⟩:=hcut
        cases kq with
        | zero => exact absurd HA.out (by simp [spec_source_tmpl.j5])
        | succ fA =>
         have H:=HA.out;clear HA;simp only [spec_source_tmpl.j5] at H
         by_cases k7 : d3 = true
         ·subst k7
          rw [if_pos rfl] at H;replace H:=bS H;obtain ⟨⟨fI,hL,hO⟩,mR,H⟩:=H
          try dsimp only at H
          have t7:=A_ mR;clear mR
          by_cases fJ : fI = 0
          ·rw [if_pos fJ] at H
           have nR:=e_t fJ;have nS:=n_f fJ;clear fJ;replace H:=bS H;obtain ⟨⟨jT,t8,t9⟩,mS,H⟩:=H
           try dsimp only at H
           have FT:=A_ mS;clear mS
           by_cases k8 : bP.length < 8796093022208
           ·rw [if_pos k8] at H
            have nT:=A_ k8;clear k8;obtain ⟨uA,gR⟩ : ∃ y_ : List (S76),y_ = (bP ++ [(⟨dE,jT⟩ : S76)]):=⟨_,rfl⟩
            first | rw [← gR,Option.bind_some] at H | rw [← gR] at H
            have uB:=A_ gR;clear gR;have H':=A_ H;clear H
            try go_wp2_with (first | ((with_reducible refine gate_callee (f:=12) rfl ?_);refine gL 191 Try.func12 #[.pointer (some ⟨g,0,none⟩),.int .i64 3] ?_;(with_reducible refine (spec_source_pick.calls fA g bA b6 b7 3 fI hL hO w0 _ ?s1 ?s2 t7.out).mono ?_);(case s1 => exact Z24);(case s2 => exact Z27);rintro e FU ⟨rfl,hi,hb,hk⟩;refine ⟨_,rfl,?_⟩;replace aJ:=A_ (Rm (Kd.R_keep (IsS52.apart (show IsS52 w0 _ g bA b6 b7 from Z24) (Z17 aJ.out) (by decide)) hk (fun _ h => h.2)) (fun _ h => h.1));replace aH:=A_ (Nm (Kd.N_keep (Nm (ok:=fun k_ => (((w.heap.size ≤ k_)) ∧ (some k_ ≠ (u791002 : Value).ownBlock ∧ (some k_ ≠ (u791005 : Value).ownBlock ∧ (ob k_ bG bL bH ∧ (k_ ≠ aE ∧ (k_ ≠ aC ∧ (k_ ≠ aK ∧ k_ ≠ g)))))))) (Z21 aH.out) (fun k_ hk_ => (⟨hk_,hk_.2.2.2.2.2.2.2⟩ : _ ∧ k_ ≠ g))) hk (fun _ h => h.2)) (fun _ h => h.1));replace a9:=A_ (Rm (Kd.R_keep (IsS52.apart (show IsS52 w0 _ g bA b6 b7 from Z24) (Z17 a9.out) (by decide)) hk (fun _ h => h.2)) (fun _ h => h.1));replace aI:=A_ (Nm (Kd.N_keep (Nm (ok:=fun k_ => (((w.heap.size ≤ k_)) ∧ (some k_ ≠ (u791002 : Value).ownBlock ∧ (some k_ ≠ (u791003 : Value).ownBlock ∧ (some k_ ≠ (u791005 : Value).ownBlock ∧ (k_ ≠ aE ∧ (k_ ≠ aC ∧ (k_ ≠ aK ∧ k_ ≠ g)))))))) (Z21 aI.out) (fun k_ hk_ => (⟨hk_,hk_.2.2.2.2.2.2.2⟩ : _ ∧ k_ ≠ g))) hk (fun _ h => h.2)) (fun _ h => h.1));replace aB:=A_ (kB_ hk a7.out aB.out);replace aA:=A_ (kB_ hk a8.out aA.out);replace aG:=A_ (kB_ hk cE.out aG.out);replace HK:=A_ (kt Z23 hk (.inl rfl));replace HB:=A_ hb;replace HI0:=A_ hi;(try clear hb)))
            have bW:=A_ (Kd.R_drew aJ.out);have bX:=A_ (Kd.N_drew aH.out);have bY:=A_ (Kd.R_drew a9.out);have bZ:=A_ (Kd.N_drew aI.out);have b0:=A_ (blk_drew aB.out);have b3:=A_ (blk_drew aA.out);have cK:=A_ (blk_drew aG.out);have eB:=A_ (IsS52.drew HI0.out);have eO:=A_ (keep_drew HK.out);have jR:=A_ (below_drew1 HB.out);clear aJ aH a9 aI aB aA aG HI0 HK HB;have aJ:=bW;have aH:=bX;have a9:=bY;have aI:=bZ;have aB:=b0;have aA:=b3;have aG:=cK;have HI0:=eB;have HK:=eO;have HB:=jR;clear bW bX bY bZ b0 b3 cK eB eO jR
            refine start_ (n:=13) (S:=fun w' => P_7_ w' aK (.int .i64 1) (.int .i64 cC) u791002 u791003 (.slice none 0 0) u791005 (.slice bG bL.length bH) (P_10 w' aC (.int .i64 ((rd_T48 l1 a2).f0)) (.slice aM ((rd_T48 l1 a2).f1).length aN) (.slice aQ ((rd_T48 l1 a2).f2).length aR) (.int .i64 ((rd_T48 l1 a2).f3.f0)) (.int .i64 ((rd_T48 l1 a2).f3.f1)) (.slice aT ((rd_T48 l1 a2).f3.f2).length aU) (.slice aV ((rd_T48 l1 a2).f3.f3).length aW) (.slice aX ((rd_T48 l1 a2).f3.f4).length aY) (.slice aZ ((rd_T48 l1 a2).f3.f5).length a0) (.slice a5 ((rd_T48 l1 a2).f3.f6).length a6))) (ds:=[12]) #[F,F,F,F,F,F,F,F,F,F,F,F,F] (by kernel_rfl) rfl rfl (D_7_ aG.out (D_10 aA.out)) (fun hHeld => ?_);refine with_tabW spec_source_tmpl.tab37 spec_source_tmpl.bits37 (fun HT_ HW_ => ?_)
            generalize FU.drew = JA at aJ aH a9 aI aB aA aG HI0 HK HB hHeld ⊢;refine pU 0 193 #[T,F,F,F,F,F,F,F,F,F,F,F,F] ?_;refine pU 2 195 #[T,F,T,F,F,F,F,F,F,F,F,F,F] ?_;refine pU 3 196 #[T,F,T,T,F,F,F,F,F,F,F,F,F] ?_;refine pU 4 197 #[T,F,T,T,T,F,F,F,F,F,F,F,F] ?_;refine tU 1 194 #[T,T,T,T,T,F,F,F,F,F,F,F,F] ?_ (y:=Z39);refine tU 5 198 #[T,T,T,T,T,T,F,F,F,F,F,F,F] ?_ (y:=Z39);refine pU 6 199 #[T,T,T,T,T,T,T,F,F,F,F,F,F] ?_
            refine oU 7 (some 200) #[T,T,T,T,T,T,T,T,F,F,F,F,F] (fun K hK => ?_)
            refine goes_ Try.func12 (by kernel_rfl) rfl #[.pointer (some ⟨g,0,none⟩),.int .i64 (((rd_T48 l1 a2).f2).length : Int)] (by rfl) rfl rfl Z25 ?_
            with_reducible refine (spec_source_pick.calls fA g bA hL hO (((rd_T48 l1 a2).f2).length : Int) jT t8 t9 w0 _ ?s1 ?s2 FT.out).mono ?_
            (case s1 => exact Z24)
            (case s2 => exact Z27)
            rintro e JB ⟨rfl,hi,hb,hk⟩
            refine ⟨_,rfl,?_⟩
            have bW:=A_ (Rm (Kd.R_keep (IsS52.apart (show IsS52 w0 _ g bA hL hO from Z24) (Z17 aJ.out) (by decide)) hk (fun _ h => h.2)) (fun _ h => h.1));have bX:=A_ (Nm (Kd.N_keep (Nm (ok:=fun k_ => (((w.heap.size ≤ k_)) ∧ (some k_ ≠ (u791002 : Value).ownBlock ∧ (some k_ ≠ (u791005 : Value).ownBlock ∧ (ob k_ bG bL bH ∧ (k_ ≠ aE ∧ (k_ ≠ aC ∧ (k_ ≠ aK ∧ k_ ≠ g)))))))) (Z21 aH.out) (fun k_ hk_ => (⟨hk_,hk_.2.2.2.2.2.2.2⟩ : _ ∧ k_ ≠ g))) hk (fun _ h => h.2)) (fun _ h => h.1));have bY:=A_ (Rm (Kd.R_keep (IsS52.apart (show IsS52 w0 _ g bA hL hO from Z24) (Z17 a9.out) (by decide)) hk (fun _ h => h.2)) (fun _ h => h.1));have bZ:=A_ (Nm (Kd.N_keep (Nm (ok:=fun k_ => (((w.heap.size ≤ k_)) ∧ (some k_ ≠ (u791002 : Value).ownBlock ∧ (some k_ ≠ (u791003 : Value).ownBlock ∧ (some k_ ≠ (u791005 : Value).ownBlock ∧ (k_ ≠ aE ∧ (k_ ≠ aC ∧ (k_ ≠ aK ∧ k_ ≠ g)))))))) (Z21 aI.out) (fun k_ hk_ => (⟨hk_,hk_.2.2.2.2.2.2.2⟩ : _ ∧ k_ ≠ g))) hk (fun _ h => h.2)) (fun _ h => h.1));have b0:=A_ (kB_ hk a7.out aB.out);have b3:=A_ (kB_ hk a8.out aA.out)
            have cK:=A_ (kB_ hk cE.out aG.out);have eB:=A_ (kt Z23 hk (.inl rfl));have eO:=A_ (hb);have jR:=A_ (hi);clear aJ aH a9 aI aB aA aG HK HB HI0;have aJ:=bW;have aH:=bX;have a9:=bY;have aI:=bZ;have aB:=b0;have aA:=b3;have aG:=cK;have HK:=eB;have HB:=eO;have HI0:=jR;clear bW bX bY bZ b0 b3 cK eB eO jR;(try clear hb);(try clear k0);(try clear hk);(try clear hi)
            refine hK.out _ _ (D_7_ aG.out (D_10 aA.out)) (fun hHeld => ?_)
            clear hK K
            refine norm_ (a':=?_) ?_ ?_
            rotate_left
            ·show Act.put _ (some 200) _ = _
             simp only [Act.put,List.setIfInBounds_toArray,List.set_cons_zero,List.set_cons_succ,i64_w,i32_w]
             rfl
            refine pU 8 201 #[T,T,T,T,T,T,T,T,T,F,F,F,F] ?_
            refine oU 9 (some 202) #[T,T,T,T,T,T,T,T,T,T,F,F,F] (fun K hK => ?_)
            refine value_ (w1:=?_) (v:=?_) (by rfl) rfl ?_ ?_
            rotate_left 2
            ·go_simp
             constructor
             ·rfl
             ·rfl
            refine hK.out _ _ (D_7_ (ba aG.out _) (D_10 (ba aA.out _))) (fun hHeld => ?_)
            clear hK K
            refine norm_ (a':=?_) ?_ ?_
            rotate_left
            ·show Act.put _ (some 202) _ = _
             simp only [Act.put,List.setIfInBounds_toArray,List.set_cons_zero,List.set_cons_succ,i64_w,i32_w]
             rfl
            refine oU 10 (some 203) #[T,T,T,T,T,T,T,T,T,T,T,F,F] (fun K hK => ?_)
            refine Kd.R_append_step k76 w.heap.size (by rfl) (.tmp 194) (.tmp 202) 43 76 (.agg #[(.int .i64 0),(.int .i64 0)]) 16 rfl Try.underlying43 info76 rfl (by decide) (by omega) u791005 bP (⟨dE,jT⟩ : S76) [.int .i64 dE,.int .i64 jT] (fun k_ => (w.heap.size ≤ k_)) (fun _ => False) rfl rfl ?aP (fun _ hk => hk.elim) ?aF ?aO (Below.refl _ _) ?aS ?aL ?_
            (case aP => exact k76_mkM _ _ _ (⟨dE,jT⟩ : S76))
            (case aF => exact (fun k_ hk => (Nat.le_trans (keep_size (w:=w) (g:=g) (row:=none) Z23) hk)))
            (case aO => exact (Z17 a9.out))
            (case aS => exact (keep_size (w:=w) (g:=g) (row:=none) Z23))
            (case aL => have:=nT.out;omega)
            intro JC FV ho hb hg hat
            rw [← uB.out] at ho;have bW:=A_ (Kd.R_over' (Z17 aJ.out) (Kd.R_typed (Z17 a9.out)) (by decide) hg);have bX:=A_ (Kd.N_afterv (ok:=(fun k_ => (w.heap.size ≤ k_) ∧ some k_ ≠ (u791002 : Value).ownBlock ∧ ob k_ bG bL bH ∧ k_ ≠ aE ∧ k_ ≠ aC ∧ k_ ≠ aK ∧ k_ ≠ g)) (by (with_reducible repeat (first | apply Kd.N_alloc | apply Kd.N_drewN | apply Kd.N_drew));exact Nm aH.out (fun _ hk => ⟨⟨hk.1,⟨hk.2.1,⟨hk.2.2.2.1,⟨hk.2.2.2.2.1,⟨hk.2.2.2.2.2.1,⟨hk.2.2.2.2.2.2.1,hk.2.2.2.2.2.2.2⟩⟩⟩⟩⟩⟩,hk.2.2.1⟩)) hg hat);have bY:=A_ (Kd.N_afterv (ok:=(fun k_ => (w.heap.size ≤ k_) ∧ some k_ ≠ (u791002 : Value).ownBlock ∧ some k_ ≠ (u791003 : Value).ownBlock ∧ k_ ≠ aE ∧ k_ ≠ aC ∧ k_ ≠ aK ∧ k_ ≠ g)) (by (with_reducible repeat (first | apply Kd.N_alloc | apply Kd.N_drewN | apply Kd.N_drew));exact Nm aI.out (fun _ hk => ⟨⟨hk.1,⟨hk.2.1,⟨hk.2.2.1,⟨hk.2.2.2.2.1,⟨hk.2.2.2.2.2.1,⟨hk.2.2.2.2.2.2.1,hk.2.2.2.2.2.2.2⟩⟩⟩⟩⟩⟩,hk.2.2.2.1⟩)) hg hat);have bZ:=A_ (blk_grown (Z1 aB.out) hg (Kd.R_ne a9.out aB.out (by decide)));have b0:=A_ (blk_grown (Z1 aA.out) hg (Kd.R_ne a9.out aA.out (by decide)));have b3:=A_ (blk_grown (Z1 aG.out) hg (Kd.R_ne a9.out aG.out (by decide)));have cK:=A_ (IsS52.grown Z24 hg (IsS52.own_ne HI0.out a9.out (by decide)));have eB:=A_ (below_weaken Z27 HL.out hb);have eO:=A_ (kt Z23 (KeepBut.of_grown hg g) (Kd.R_base2 a9.out))
            have jR:=A_ (ho);clear aJ aH aI aB aA aG HI0 HB HK a9;have aJ:=bW;have aH:=bX;have aI:=bY;have aB:=bZ;have aA:=b0;have aG:=b3;have HI0:=cK;have HB:=eB;have HK:=eO;have mT:=jR;clear bW bX bY bZ b0 b3 cK eB eO jR ho hb hg hat;obtain ⟨uC,uD,mU⟩:=Kd.R_slice mT.out;(first | subst mU | (injection mU with cI dG cJ;have dH:=cI.symm;have dI:=cJ.symm;clear cI dG cJ;subst dH;subst dI))
            refine hK.out _ _ (D_7_ aG.out (D_10 aA.out)) (fun hHeld => ?_)
            clear hK K
            refine norm_ (a':=?_) ?_ ?_
            rotate_left
            ·show Act.put _ (some 203) _ = _
             simp only [Act.put,List.setIfInBounds_toArray,List.set_cons_zero,List.set_cons_succ,i64_w,i32_w]
             rfl
            refine pU 11 204 #[T,T,T,T,T,T,T,T,T,T,T,T,F] ?_
            refine last_ (i:=12) (N:=none) #[T,T,T,T,T,T,T,T,T,T,T,T,T] rfl rfl (one_of HT_.out (by kernel_rfl)) (by decide) (fun K hK => ?_)
            have HY : FV.cell? ⟨aK,5,none⟩ = some (u791005):=(bc aG.out 5).trans rfl;have FW:=blk_frozen aG.out 5;have uE:=bU.out;have uF:=bO.out;have uG:=cO.out;have uH:=cG.out
            refine skip_ (w1:=?_) (by rfl) rfl ?_ ?_
            rotate_left
            ·go_simp
             rfl
            refine hK.out _ _ ?_
            clear hK K
            refine done_ (done_of HT_.out (by kernel_rfl)) ?_
            try go_wp2
            go_roundg fA
            case measure => have:=HJ22.out;have:=HK2.out;have:=HK3.out;have:=HJ195.out;omega
            case rel => exact ⟨(wrap64 (dE + 1)),(t8),(t9),(uA),(.slice uC uA.length uD),Z22,H',⟨by have:=HJ22.out;have:=HK2.out;have:=HK3.out;have:=HJ195.out;omega⟩,⟨Z54 aJ.out aG.out⟩,⟨by (with_reducible repeat (first | apply Kd.N_alloc | apply Kd.N_drewN | apply Kd.N_drew));exact Nm (Nf (Nm aH.out (fun k_ hk => (⟨hk,hk.1.2.2.2.2.2.1⟩ : _ ∧ k_ ≠ aK)))) (fun _ hk => ⟨hk.1.1.1,⟨hk.1.1.2.1,⟨hk.1.2,⟨hk.1.1.2.2.1,⟨hk.1.1.2.2.2.1,⟨hk.1.1.2.2.2.2.1,⟨hk.1.1.2.2.2.2.2.1,hk.1.1.2.2.2.2.2.2⟩⟩⟩⟩⟩⟩⟩)⟩,⟨Z54 mT.out aG.out⟩,⟨by (with_reducible repeat (first | apply Kd.N_alloc | apply Kd.N_drewN | apply Kd.N_drew));exact Nm (Nf (Nm aI.out (fun k_ hk => (⟨hk,hk.1.2.2.2.2.2.1⟩ : _ ∧ k_ ≠ aK)))) (fun _ hk => ⟨hk.1.1.1,⟨hk.1.1.2.1,⟨hk.1.1.2.2.1,⟨hk.1.2,⟨hk.1.1.2.2.2.1,⟨hk.1.1.2.2.2.2.1,⟨hk.1.1.2.2.2.2.2.1,hk.1.1.2.2.2.2.2.2⟩⟩⟩⟩⟩⟩⟩)⟩,⟨Z38 bU.out aB.out⟩,⟨Z38 bO.out aA.out⟩,⟨bp0 aG.out⟩,⟨Z24⟩,⟨Z23⟩,⟨Z27⟩⟩
           ·rw [if_neg k8] at H
            exact absurd H (by simp)
          ·rw [if_neg fJ] at H
           have nR:=e_f fJ;have nS:=n_t fJ;have H':=A_ H;clear H
           go_wp2_with (first | ((with_reducible refine gate_callee (f:=12) rfl ?_);refine gL 191 Try.func12 #[.pointer (some ⟨g,0,none⟩),.int .i64 3] ?_;(with_reducible refine (spec_source_pick.calls fA g bA b6 b7 3 fI hL hO w0 _ ?s1 ?s2 t7.out).mono ?_);(case s1 => exact Z24);(case s2 => exact Z27);rintro e JD ⟨rfl,hi,hb,hk⟩;refine ⟨_,rfl,?_⟩;replace aJ:=A_ (Rm (Kd.R_keep (IsS52.apart (show IsS52 w0 _ g bA b6 b7 from Z24) (Z17 aJ.out) (by decide)) hk (fun _ h => h.2)) (fun _ h => h.1));replace aH:=A_ (Nm (Kd.N_keep (Nm (ok:=fun k_ => (((w.heap.size ≤ k_)) ∧ (some k_ ≠ (u791002 : Value).ownBlock ∧ (some k_ ≠ (u791005 : Value).ownBlock ∧ (ob k_ bG bL bH ∧ (k_ ≠ aE ∧ (k_ ≠ aC ∧ (k_ ≠ aK ∧ k_ ≠ g)))))))) (Z21 aH.out) (fun k_ hk_ => (⟨hk_,hk_.2.2.2.2.2.2.2⟩ : _ ∧ k_ ≠ g))) hk (fun _ h => h.2)) (fun _ h => h.1));replace a9:=A_ (Rm (Kd.R_keep (IsS52.apart (show IsS52 w0 _ g bA b6 b7 from Z24) (Z17 a9.out) (by decide)) hk (fun _ h => h.2)) (fun _ h => h.1));replace aI:=A_ (Nm (Kd.N_keep (Nm (ok:=fun k_ => (((w.heap.size ≤ k_)) ∧ (some k_ ≠ (u791002 : Value).ownBlock ∧ (some k_ ≠ (u791003 : Value).ownBlock ∧ (some k_ ≠ (u791005 : Value).ownBlock ∧ (k_ ≠ aE ∧ (k_ ≠ aC ∧ (k_ ≠ aK ∧ k_ ≠ g)))))))) (Z21 aI.out) (fun k_ hk_ => (⟨hk_,hk_.2.2.2.2.2.2.2⟩ : _ ∧ k_ ≠ g))) hk (fun _ h => h.2)) (fun _ h => h.1));replace aB:=A_ (kB_ hk a7.out aB.out);replace aA:=A_ (kB_ hk a8.out aA.out);replace aG:=A_ (kB_ hk cE.out aG.out);replace HK:=A_ (kt Z23 hk (.inl rfl));replace HB:=A_ hb;replace HI0:=A_ hi;(try clear hb)))
           go_roundg fA
           case measure => have:=HJ22.out;have:=HK2.out;have:=HK3.out;have:=HJ195.out;omega
           case rel => exact ⟨(wrap64 (dE + 1)),(hL),(hO),(bP),(u791005),Z22,H',⟨by have:=HJ22.out;have:=HK2.out;have:=HK3.out;have:=HJ195.out;omega⟩,⟨Z17 aJ.out⟩,⟨Z21 aH.out⟩,⟨Z17 a9.out⟩,⟨Z21 aI.out⟩,⟨Z1 aB.out⟩,⟨Z1 aA.out⟩,⟨Z1 aG.out⟩,⟨Z24⟩,⟨Z23⟩,⟨Z27⟩⟩
         ·replace k7:=Bool.eq_false_iff.mpr k7
          subst k7;rw [if_neg (show ¬ (false = true) by decide)] at H;simp only [Option.some.injEq,Prod.mk.injEq] at H;obtain ⟨rfl,rfl,rfl,rfl,rfl,rfl,rfl,rfl,rfl⟩:=H;have FX:=cO.out;have FY:=bU.out;have FZ:=cG.out;have F0:=bO.out;have F1:=cE.out;have F2:=NB0_790.out;obtain ⟨uI,uJ,uK,uL,uM,uN,uO,uP,uQ,uR,uS,uT,uU,uV⟩:=C7 aG.out;have F3:=bC.out;have F4:=aD.out;have F5:=a7.out;have F6:=NB0_687.out;obtain ⟨uW,uX,uY,uZ,u0,u2,u3,u4,u5,u6,u7,u8,u9,vA⟩:=C7 aB.out;obtain ⟨vB,vC,vD⟩:=Kd.R_slice aJ.out;subst vD;obtain ⟨vE,vF,vG⟩:=Kd.N_slice aH.out;subst vG;obtain ⟨vH,vI,vJ⟩:=Kd.R_slice a9.out;subst vJ
          go_wp2
          refine bodyPost_ret (results_cell_row rfl _ _ aE 46 #[.int .i64 1,.int .i64 cC,.slice vB bK.length vC,.slice vE bJ.length vF,.slice none 0 0,.slice vH bP.length vI,.slice bG bL.length bH] (0,0) _ rfl (bp0 aB.out) Try.underlying46 rfl (by kernel_rfl)) rfl ?_
          exact ⟨_,_,_,_,_,Z12,by (with_reducible repeat (first | apply Kd.R_alloc | apply Kd.R_drewN | apply Kd.R_drew));exact Rm (Rf (Rf (Rf (Rf (Rf (Rf (Rf (Kd.R_types aJ.out aB.out (by decide))))))))) (fun _ hk => hk.1),by (with_reducible repeat (first | apply Kd.N_alloc | apply Kd.N_drewN | apply Kd.N_drew));exact Nm (Nf (Nf (Nf (Nf (Nf (Nf (Nf (Nm aH.out (fun k_ hk => (⟨hk,hk.2.2.2.2.1⟩ : _ ∧ k_ ≠ aE)))))))))) (fun _ hk => ⟨hk.1.1,⟨hk.1.2.1,⟨(by simp [Value.ownBlock]),⟨hk.1.2.2.1,hk.1.2.2.2.1⟩⟩⟩⟩),Z29,by (with_reducible repeat (first | apply Kd.R_alloc | apply Kd.R_drewN | apply Kd.R_drew));exact Rm (Rf (Rf (Rf (Rf (Rf (Rf (Rf (Kd.R_types a9.out aB.out (by decide))))))))) (fun _ hk => hk.1),by (with_reducible repeat (first | apply Kd.N_alloc | apply Kd.N_drewN | apply Kd.N_drew));exact Nm (Nf (Nf (Nf (Nf (Nf (Nf (Nf (Nm aI.out (fun k_ hk => (⟨hk,hk.2.2.2.2.1⟩ : _ ∧ k_ ≠ aE)))))))))) (fun _ hk => ⟨hk.1.1,⟨hk.1.2.1,⟨hk.1.2.2.1,⟨(by simp [Value.ownBlock]),hk.1.2.2.2.1⟩⟩⟩⟩),Z24,Z27,Z23⟩
theorem spec_source_tmpl.step (k : Nat) (IK : ∀ m,m ≤ k → spec_source_kidsOf.Told m) : spec_source_tmpl.Told (k + 1):=spec_source_tmpl.S.2 spec_source_tmpl.b k IK
theorem spec_source_tmpl.both (k : Nat) : spec_source_kidsOf.Told k ∧ spec_source_tmpl.Told k:=by
 induction k using Nat.strongRecOn with
 | _ k ih =>
  refine ⟨spec_source_kidsOf.step k (fun m hm => (ih m hm).2),?_⟩
  cases k with
  | zero => intro g aA aB aC A1 c1 l1 a2 a3 a4 r1 r2 r3 r4 r5 r6 r7 r8 r9 w0 w hI hB hr1 aD h;exact absurd h (by simp [spec_source_tmpl.f])
  | succ k => exact spec_source_tmpl.step k (fun m hm => (ih m (Nat.lt_succ_of_le hm)).1)
theorem spec_source_tmpl.calls (k : Nat) : ∀ (g : Nat) (aA : List Int) (aB : Int) (aC : Int) (A1 : Option Addr) (c1 : Nat) (l1 : List (S48)) (a2 : Int) (a3 : Int) (a4 : Int) (r1 : Int) (r2 : Int) (r3 : List Int) (r4 : List (List (S70))) (r5 : List (S70)) (r6 : List (S76)) (r7 : List (S46)) (r8 : Int) (r9 : Int) (w0 w : World) (hI : IsS52 w0 w g aA aB aC) (hB : Below w0.heap.size w0 w) (hr1 : ∀ W_,KeepBut w W_ g none → Kd.C k48 W_ A1 l1.length l1) (aI : l1.length ≤ c1) (h : spec_source_tmpl.f k aA aB aC l1 a2 a3 a4 = some (r1,r2,r3,r4,r5,r6,r7,r8,r9)),
  Calls Try.prog 22 #[.pointer (some ⟨g,0,none⟩),.slice A1 l1.length c1,.int .i64 a2,.int .i64 a3,.int .i64 a4] w fun e w' => ∃ aD aG aE aF aH : Value,e = .returned (.agg #[.int .i64 r1,.int .i64 r2,aD,aG,aE,aF,aH]) ∧ Kd.R (Kd.int .i64) 3 w' w.heap.size (fun k_ => (w.heap.size ≤ k_)) aD r3 ∧ Kd.N (Kd.slice 70 k70) 42 w' w.heap.size (fun k_ => (w.heap.size ≤ k_) ∧ some k_ ≠ (aD : Value).ownBlock ∧ some k_ ≠ (aE : Value).ownBlock ∧ some k_ ≠ (aF : Value).ownBlock ∧ some k_ ≠ (aH : Value).ownBlock) aG r4 ∧ Kd.R k70 70 w' w.heap.size (fun k_ => (w.heap.size ≤ k_)) aE r5 ∧ Kd.R k76 76 w' w.heap.size (fun k_ => (w.heap.size ≤ k_)) aF r6 ∧ Kd.N k46 46 w' w.heap.size (fun k_ => (w.heap.size ≤ k_) ∧ some k_ ≠ (aD : Value).ownBlock ∧ some k_ ≠ (aG : Value).ownBlock ∧ some k_ ≠ (aE : Value).ownBlock ∧ some k_ ≠ (aF : Value).ownBlock) aH r7 ∧ IsS52 w0 w' g aA r8 r9 ∧ Below w0.heap.size w0 w' ∧ KeepBut w w' g none:=(spec_source_tmpl.both k).2
theorem spec_source_kidsOf.calls (k : Nat) : ∀ (g : Nat) (aA : List Int) (aB : Int) (aC : Int) (A1 : Option Addr) (c1 : Nat) (l1 : List (S48)) (a2 : Int) (a3 : Int) (a4 : Int) (a5 : Int) (a6 : Int) (r1 : List (S46)) (r2 : Int) (r3 : Int) (w0 w : World) (hI : IsS52 w0 w g aA aB aC) (hB : Below w0.heap.size w0 w) (hr1 : ∀ W_,KeepBut w W_ g none → Kd.C k48 W_ A1 l1.length l1) (aE : l1.length ≤ c1) (h : spec_source_kidsOf.f k aA aB aC l1 a2 a3 a4 a5 a6 = some (r1,r2,r3)),
  Calls Try.prog 34 #[.pointer (some ⟨g,0,none⟩),.slice A1 l1.length c1,.int .i64 a2,.int .i64 a3,.int .i64 a4,.int .i64 a5,.int .i64 a6] w fun e w' => ∃ aD : Value,e = .returned (aD) ∧ Kd.N k46 46 w' w.heap.size (fun k_ => (w.heap.size ≤ k_)) aD r1 ∧ IsS52 w0 w' g aA r2 r3 ∧ Below w0.heap.size w0 w' ∧ KeepBut w w' g none:=(spec_source_tmpl.both k).1
end Go.Proofs.Ytmgdjmeoljepgaa.PFnProgBelow
