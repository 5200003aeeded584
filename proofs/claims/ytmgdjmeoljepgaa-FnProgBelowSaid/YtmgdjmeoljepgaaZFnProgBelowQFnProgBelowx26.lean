/- Walks (lines of the print; no condition). -/
import Derived.Test.YtmgdjmeoljepgaaZFnProgBelowQFnProgBelowx25
namespace Go.Proofs.Ytmgdjmeoljepgaa.PFnProgBelow
open Go.RowKit Go.Proofs.YtmgdjmeoljepgaaW.PrintWords Go.Proofs.YtmgdjmeoljepgaaW.PrintLast Go.Proofs.YtmgdjmeoljepgaaW.PrintMore
attribute [local go_sem] max2_int min2_int max_two min_two max_three min_three max_four min_four
set_option linter.unusedVariables false
set_option linter.unusedSimpArgs false
mutual
def laws_FnProgBelow.j0 : Nat → List (S48) → Int → List Int → Bool → Bool → Option (Bool)
 | 0,_,_,_,_,_ => none
 | k + 1,x3,x4,x5,x7,aE => if aE = true then (some x7) else (laws_FnProgBelow.l0 k x3 x4 x5 0)
def laws_FnProgBelow.l0 : Nat → List (S48) → Int → List Int → Int → Option (Bool)
 | 0,_,_,_,_ => none
 | k + 1,x3,x4,x5,x8 => if x8 < (x5.length : Int) then (if 0 ≤ x8 then (if (rd x5 x8) ≤ x4 then (some false) else (if x8 > 0 then (if 0 ≤ (wrap64 (x8 - 1)) then (if (wrap64 (x8 - 1)) < (x5.length : Int) then (if (rd x5 (wrap64 (x8 - 1))) ≥ (rd x5 x8) then (some false) else ((impl_ProgBelow.f k x3 (rd x5 x8)).bind fun aA => ((spec_AllIn.f k aA x5).bind fun aB => (if aB = true then (laws_FnProgBelow.l0 k x3 x4 x5 (wrap64 (x8 + 1))) else (some false))))) else (none)) else (none)) else ((impl_ProgBelow.f k x3 (rd x5 x8)).bind fun aC => ((spec_AllIn.f k aC x5).bind fun aD => (if aD = true then (laws_FnProgBelow.l0 k x3 x4 x5 (wrap64 (x8 + 1))) else (some false)))))) else (none)) else (some true)
end
def laws_FnProgBelow.f (k : Nat) (l0 : List Int) : Option (Bool):=if (l0.length : Int) > 1048576 then (some true) else ((spec_DrawProgBelow.f k l0).bind fun aA => ((impl_ProgBelow.f k aA.1 aA.2).bind fun aB => ((spec_ProgBelow.f k aA.1 aA.2).bind fun aD => ((spec_SameInts.f k aB aD).bind fun aC => (if aC = true then (laws_FnProgBelow.j0 k aA.1 aA.2 aB aC ((aB.length : Int) == 0)) else (laws_FnProgBelow.j0 k aA.1 aA.2 aB aC true))))))
def laws_FnProgBelow.T12 : Bool × List (List Nat × List Nat):=(true,[([],[]),([],[]),([0,1],[0,1]),([2],[2]),([],[]),([3,4],[3,4]),([5],[5]),([6],[6]),([7,6],[6,7]),([8,6,6],[6,8]),([9],[9]),([9],[9]),([11,9],[9,11]),([10,12,9],[9,10,12]),([13,9],[9,13]),([9],[9]),([9],[9]),([15,16,9],[9,15,16]),([17,9],[9,17]),([14,18,9],[9,14,18]),([9,19,6],[6,9,19]),([6,20],[6,20]),([21,9],[21]),([22],[22]),([22],[22]),([22],[22]),([24,25,22],[22,24,25]),([26,22],[22,26]),([23,27,22,22],[22,23,27]),([22],[22]),([28,29,28,22],[22,28,29]),([30,22],[22,30]),([22,31],[22,31])])
def laws_FnProgBelow.B12 : List Nat:=[0,0,3,7,0,31,63,127,255,511,1023,1023,3071,8191,16383,1023,1023,99327,230399,524287,1048575,2097151,4194303,8388607,8388607,8388607,58720255,125829119,268435455,8388607,1073741823,2147483647,4294967295]
theorem laws_FnProgBelow.tab12 : rtab .any (opsOf Try.f3 12) = laws_FnProgBelow.T12:=by kernel_rfl
theorem laws_FnProgBelow.bits12 : waitsOk laws_FnProgBelow.T12.2 laws_FnProgBelow.B12 = true:=by kernel_rfl
set_option maxHeartbeats 8000000 in
set_option maxRecDepth 100000 in
theorem laws_FnProgBelow.calls (k : Nat) (A0 : Option Addr) (c0 : Nat) (l0 : List Int) (r : Bool) (w : World) (dK : Kd.C (Kd.int .u8) w A0 l0.length l0) (hc0 : l0.length ≤ c0) (h : laws_FnProgBelow.f k l0 = some r) :
  Calls Try.prog 3 #[.slice A0 l0.length c0] w fun e w' => e = .returned (.bool r) ∧ Below w.heap.size w w':=by
 have d0:=A_ dK;have d1:=A_ hc0;clear dK hc0;have HB:=A_ (Below.refl w.heap.size w);have H:=h;unfold laws_FnProgBelow.f at H;clear h
 by_cases c2 : (l0.length : Int) > 1048576
 ·rw [if_pos c2] at H
  have b5 : decide (1048576 < (l0.length : Int)) = true:=dt c2;have b6 : decide (1048576 < l0.length) = true:=dt (by omega);clear c2;obtain rfl:=Option.some.inj H
  go_enter Try.func3,Try.ntmps3
  go_wp2
  go_ret
  exact ⟨Z12,Z2⟩
 ·rw [if_neg c2] at H
  have b5 : decide (1048576 < (l0.length : Int)) = false:=df c2;have b6 : decide (1048576 < l0.length) = false:=df (by omega);clear c2;replace H:=bS H;obtain ⟨⟨aI,a2⟩,dL,H⟩:=H
  try dsimp only at H
  have A3:=A_ dL;clear dL;replace H:=bS H;obtain ⟨aA,dM,H⟩:=H
  try dsimp only at H
  have A4:=A_ dM;clear dM;replace H:=bS H;obtain ⟨bL,dN,H⟩:=H
  try dsimp only at H
  have A5:=A_ dN;clear dN;replace H:=bS H;obtain ⟨bM,dO,H⟩:=H
  try dsimp only at H
  have A6:=A_ dO;clear dO;have cV:=A_ H;clear H
  go_enter Try.func3,Try.ntmps3
  go_upto_region 7 with (first | ((with_reducible refine gate_callee (f:=4) rfl ?_);refine gL 14 Try.func4 #[.slice A0 l0.length c0] ?_;(with_reducible refine (spec_DrawProgBelow.calls k _ _ l0 aI a2 _ ?s1 d1.out A3.out).mono ?_);(case s1 => exact Z61 d0.out);rintro e w8 ⟨dP,rfl,aV,hb⟩;refine ⟨_,rfl,?_⟩;have aL:=A_ (Kd.N_lower (Nm (ok':=fun k_ => True) aV (fun k_ hk_ => trivial)) (bz Z2));replace HB:=A_ (bst Z2 hb);(try clear hb);(try clear aV);obtain ⟨bU,bV,d2⟩:=Kd.N_slice aL.out;subst d2) | ((with_reducible refine gate_callee (f:=5) rfl ?_);refine gL 19 Try.func5 #[.slice bU aI.length bV,.int .i64 a2] ?_;(with_reducible refine (impl_ProgBelow.calls k _ _ aI a2 aA _ ?s1 ?s2 A4.out).mono ?_);(case s1 => exact Z43 aL.out);(case s2 => exact (Kd.N_reads' aL.out).2.1);rintro e d4 ⟨dQ,rfl,aV,hb⟩;refine ⟨_,rfl,?_⟩;replace aL:=A_ (Kd.N_elder' (Z21 aL.out) (Kd.R_base aV) hb);have aN:=A_ (Kd.R_lower aV (bz Z2));replace HB:=A_ (bst Z2 hb);(try clear hb);(try clear aV)) | ((with_reducible refine gate_callee (f:=6) rfl ?_);refine gL 22 Try.func6 #[.slice bU aI.length bV,.int .i64 a2] ?_;(with_reducible refine (spec_ProgBelow.calls k _ _ aI a2 bL _ ?s1 ?s2 A5.out).mono ?_);(case s1 => exact Z43 aL.out);(case s2 => exact (Kd.N_reads' aL.out).2.1);rintro e d5 ⟨dR,rfl,aV,hb⟩;refine ⟨_,rfl,?_⟩;replace aL:=A_ (Kd.N_elder' (Z21 aL.out) (Kd.R_base aV) hb);have bF:=A_ (Kd.R_lower (Kd.R_new' aV (Kd.R_lt (Z17 aN.out))) (bz Z2));replace aN:=A_ (Kd.R_elder' (Z17 aN.out) (Kd.R_base aV) hb);replace HB:=A_ (bst Z2 hb);(try clear hb);(try clear aV);obtain ⟨bN,bB,cW⟩:=Kd.R_slice aN.out;subst cW;obtain ⟨cX,cY,cZ⟩:=Kd.R_slice bF.out;subst cZ) | ((with_reducible refine gate_callee (f:=7) rfl ?_);refine gL 25 Try.func7 #[.slice bN aA.length bB,.slice cX bL.length cY] ?_;(with_reducible refine (spec_SameInts.calls k _ _ aA _ _ bL bM _ ?s1 ?s2 ?s3 ?s4 A6.out).mono ?_);(case s1 => exact Z32 aN.out);(case s2 => exact (Kd.R_reads' aN.out).2.1);(case s3 => exact Z32 bF.out);(case s4 => exact (Kd.R_reads' bF.out).2.1);rintro e w' ⟨rfl,⟨nd,rfl⟩⟩;refine ⟨_,rfl,?_⟩))
  (try simp only [Act.put,List.setIfInBounds_toArray,List.set_cons_zero,List.set_cons_succ])
  go_cut [32] (fun d3 wc => ∃ (kq : Nat) (bK : Bool),d3 = .bool bK ∧ Aside0 (laws_FnProgBelow.j0 kq aI a2 aA bM bK = some r) ∧ Aside0 (kq ≤ k) ∧ Aside0 (Kd.N k48 48 wc w.heap.size (fun k_ => some k_ ≠ ((.slice bN aA.length bB) : Value).ownBlock) (.slice bU aI.length bV) aI) ∧ Aside0 (Kd.R (Kd.int .i64) 3 wc w.heap.size (fun _ => True) (.slice bN aA.length bB) aA) ∧ Aside0 (Below w.heap.size w wc))
  case first =>
   have H:=cV.out;clear cV
   by_cases cN : bM = true
   ·subst cN
    rw [if_pos rfl] at H;have H':=A_ H;clear H
    go_wp2
    go_meet
    case rel => exact ⟨_,(((aA.length : Int) == 0)),Z22,H',⟨Z47⟩,⟨by (with_reducible repeat (first | apply Kd.N_alloc | apply Kd.N_drewN | apply Kd.N_drew));exact Nm aL.out (fun _ hk => hk.1.2)⟩,⟨Z55 aN.out⟩,⟨Z2⟩⟩
   ·replace cN:=Bool.eq_false_iff.mpr cN
    subst cN;rw [if_neg (show ¬ (false = true) by decide)] at H;have H':=A_ H;clear H
    go_wp2
    go_meet
    case rel => exact ⟨_,(true),Z22,H',⟨Z47⟩,⟨by (with_reducible repeat (first | apply Kd.N_alloc | apply Kd.N_drewN | apply Kd.N_drew));exact Nm aL.out (fun _ hk => hk.1.2)⟩,⟨Z55 aN.out⟩,⟨Z2⟩⟩
  case rest =>
   clear cV b5 b6;obtain ⟨kq,bK,rfl,HA,cO,aF,aD,HB⟩:=hcut
   cases kq with
   | zero => exact absurd HA.out (by simp [laws_FnProgBelow.j0])
   | succ dS =>
    have H:=HA.out;clear HA;simp only [laws_FnProgBelow.j0] at H
    by_cases cP : bK = true
    ·subst cP
     rw [if_pos rfl] at H;obtain rfl:=Option.some.inj H
     go_wp2
     go_ret
     exact ⟨Z12,Z2⟩
    ·replace cP:=Bool.eq_false_iff.mpr cP
     subst cP;rw [if_neg (show ¬ (false = true) by decide)] at H;have H':=A_ H;clear H
     go_wp2
     go_loopg [8] dS (fun kq v8 w' => ∃ (aB : Int),v8 = .int .i64 aB ∧ Aside0 (laws_FnProgBelow.l0 kq aI a2 aA aB = some r) ∧ Aside0 (kq ≤ dS) ∧ Aside0 (Kd.N k48 48 w' w.heap.size (fun k_ => some k_ ≠ ((.slice bN aA.length bB) : Value).ownBlock) (.slice bU aI.length bV) aI) ∧ Aside0 (Kd.R (Kd.int .i64) 3 w' w.heap.size (fun _ => True) (.slice bN aA.length bB) aA) ∧ Aside0 (Below w.heap.size w w'))
     case atStart => exact ⟨(0),Z22,H',⟨Nat.le_refl _⟩,⟨Z21 aF.out⟩,⟨Z17 aD.out⟩,⟨Z2⟩⟩
     case round =>
      clear H';obtain ⟨aB,rfl,HA,HK2,aF,aD,HB⟩:=hrel
      cases gk with
      | zero => exact absurd HA.out (by simp [laws_FnProgBelow.l0])
      | succ k2 =>
       have H:=HA.out;clear HA;simp only [laws_FnProgBelow.l0] at H
       by_cases b1 : aB < (aA.length : Int)
       ·rw [if_pos b1] at H
        have b7:=dt b1;clear b1
        by_cases cQ : 0 ≤ aB
        ·rw [if_pos cQ] at H
         have dT:=dt cQ;clear cQ
         by_cases b2 : (rd aA aB) ≤ a2
         ·rw [if_pos b2] at H
          have b8:=dt b2;clear b2;obtain rfl:=Option.some.inj H
          try go_wp2
          have aY:=A_ (Kd.N_drew aF.out);have aZ:=A_ (Kd.R_drew aD.out);have a0:=A_ (below_drew1 HB.out);clear aF aD HB;have aF:=aY;have aD:=aZ;have HB:=a0;clear aY aZ a0;have aG : 0 ≤ (aB : Int):=odt;have aH : aB < (aA.length : Int):=odt;obtain ⟨aC,aO,aE⟩:=Kd.at_int (Kd.R_reads' aD.out).2.2 aB aG aH;cases aO;replace aG:=eq_true aG;replace aH:=eq_true aH
          refine start_ (n:=33) (S:=fun w' => w'.cell? (aC.add (aB).toNat) = some (.int .i64 (rd aA aB))) (ds:=[]) M37 (by kernel_rfl) rfl rfl (aE) (fun hHeld => ?_);refine with_tabW laws_FnProgBelow.tab12 laws_FnProgBelow.bits12 (fun HT_ HW_ => ?_)
          generalize wr.drew = d6 at aF aD HB aE hHeld ⊢;refine pU 0 40 M38 ?_;refine pU 1 41 M39 ?_;refine pU 2 42 M40 ?_;refine pU 4 44 M41 ?_;refine take_ (i:=3) (N:=some 43) (v:=?_) (a':=?_) M42 rfl rfl (take_ofW HT_.out HW_.out (by kernel_rfl)) ZF (Or.inl ⟨by rfl,?_⟩) hHeld ?_ ?_;rotate_left
          ·intro w' s0
           go_simp
           with_reducible rfl
          rotate_left;(·exact Z0);refine pU 5 45 M43 ?_;refine pU 6 46 M44 ?_;refine pN 7 47 M45 ?_;refine pN 8 48 M46 ?_;refine pN 9 49 M47 ?_;refine pN 10 50 M48 ?_;refine pN 11 51 M49 ?_;refine pN 12 52 M50 ?_;refine pN 13 53 M51 ?_;refine pN 14 54 M52 ?_;refine pN 15 55 M53 ?_;refine pN 16 56 M54 ?_;refine pN 17 57 M55 ?_;refine pN 18 58 M56 ?_;refine pN 19 59 M57 ?_;refine pN 20 60 M58 ?_;refine pU 21 61 M59 ?_;refine pU 22 62 M60 ?_;refine pN 23 63 M61 ?_;refine pN 24 64 M62 ?_;refine pN 25 65 M63 ?_;refine pN 26 66 M64 ?_;refine pN 27 67 M65 ?_;refine pN 28 68 M66 ?_;refine pN 29 69 M67 ?_;refine pN 30 70 M68 ?_;refine pN 31 71 M69 ?_;refine pU 32 72 M70 ?_
          refine done_ (done_of HT_.out (by kernel_rfl)) ?_
          try go_wp2
          go_ret
          exact ⟨Z12,Z2⟩
         ·rw [if_neg b2] at H
          have b8:=df b2;clear b2
          by_cases b3 : aB > 0
          ·rw [if_pos b3] at H
           have b9 : decide (0 < aB) = true:=dt b3;clear b3;obtain ⟨aM,bC⟩ : ∃ j_ : Int,(wrap64 (aB - 1)) = j_:=⟨_,rfl⟩
           first | rw [bC] at H | simp only [bC] at H
           have dA : (IntKind.i64.wrap (aB - 1)) = aM:=(i64_w _).trans bC
           by_cases cR : 0 ≤ (aM)
           ·rw [if_pos cR] at H
            have dU:=dt cR;clear cR
            by_cases cS : (aM) < (aA.length : Int)
            ·rw [if_pos cS] at H
             have dV:=dt cS;clear cS
             by_cases b4 : (rd aA (aM)) ≥ (rd aA aB)
             ·rw [if_pos b4] at H
              have cA : decide ((rd aA aB) ≤ (rd aA (aM))) = true:=dt b4;clear b4;obtain rfl:=Option.some.inj H
              try go_wp2
              have aY:=A_ (Kd.N_drew aF.out);have aZ:=A_ (Kd.R_drew aD.out);have a0:=A_ (below_drew1 HB.out);clear aF aD HB;have aF:=aY;have aD:=aZ;have HB:=a0;clear aY aZ a0;have aG : 0 ≤ (aB : Int):=odt;have aH : aB < (aA.length : Int):=odt;obtain ⟨aC,aO,aE⟩:=Kd.at_int (Kd.R_reads' aD.out).2.2 aB aG aH;cases aO;replace aG:=eq_true aG;replace aH:=eq_true aH;have aP : 0 ≤ ((aM) : Int):=odt;have aQ : (aM) < (aA.length : Int):=odt;obtain ⟨a3,bD,aJ⟩:=Kd.at_int (Kd.R_reads' aD.out).2.2 (aM) aP aQ;obtain rfl : aC = a3:=(by injection bD);replace aP:=eq_true aP;replace aQ:=eq_true aQ;have aR : 0 ≤ (aB : Int):=odt;have aS : aB < (aA.length : Int):=odt;obtain ⟨a4,bE,aK⟩:=Kd.at_int (Kd.R_reads' aD.out).2.2 aB aR aS;obtain rfl : aC = a4:=(by injection bE);replace aR:=eq_true aR;replace aS:=eq_true aS
              refine start_ (n:=33) (S:=fun w' => w'.cell? (aC.add (aB).toNat) = some (.int .i64 (rd aA aB)) ∧ w'.cell? (aC.add ((aM)).toNat) = some (.int .i64 (rd aA (aM))) ∧ w'.cell? (aC.add (aB).toNat) = some (.int .i64 (rd aA aB))) (ds:=[]) M37 (by kernel_rfl) rfl rfl ⟨aE,aJ,aK⟩ (fun hHeld => ?_);refine with_tabW laws_FnProgBelow.tab12 laws_FnProgBelow.bits12 (fun HT_ HW_ => ?_)
              generalize wr.drew = d7 at aF aD HB aE aJ aK hHeld ⊢;refine pU 0 40 M38 ?_;refine pU 1 41 M39 ?_;refine pU 2 42 M40 ?_;refine pU 4 44 M41 ?_;refine take_ (i:=3) (N:=some 43) (v:=?_) (a':=?_) M42 rfl rfl (take_ofW HT_.out HW_.out (by kernel_rfl)) ZF (Or.inl ⟨by rfl,?_⟩) hHeld ?_ ?_;rotate_left
              ·rintro w' ⟨s0,s1,s2⟩
               go_simp
               with_reducible rfl
              rotate_left;(·exact Z0);refine pU 5 45 M43 ?_;refine pU 6 46 M44 ?_;refine pU 7 47 M45 ?_;refine pU 8 48 M46 ?_;refine pU 9 49 M47 ?_;refine pU 10 50 M48 ?_;refine pU 11 51 M49 ?_;refine pU 12 52 M50 ?_;refine pU 13 53 M51 ?_;refine pU 15 55 M71 ?_;refine pU 16 56 M72 ?_;refine pU 17 57 M73 ?_;refine take_ (i:=14) (N:=some 54) (v:=?_) (a':=?_) M55 rfl rfl (take_ofW HT_.out HW_.out (by kernel_rfl)) ZF (Or.inl ⟨by rfl,?_⟩) hHeld ?_ ?_
              rotate_left
              ·rintro w' ⟨s0,s1,s2⟩
               go_simp
               with_reducible rfl
              rotate_left;(·exact Z0);refine take_ (i:=18) (N:=some 58) (v:=?_) (a':=?_) M56 rfl rfl (take_ofW HT_.out HW_.out (by kernel_rfl)) ZF (Or.inl ⟨by rfl,?_⟩) hHeld ?_ ?_
              rotate_left
              ·rintro w' ⟨s0,s1,s2⟩
               go_simp
               with_reducible rfl
              rotate_left;(·exact Z0);refine pU 19 59 M57 ?_;refine pU 20 60 M58 ?_;refine pU 21 61 M59 ?_;refine pU 22 62 M60 ?_;refine pN 23 63 M61 ?_;refine pN 24 64 M62 ?_;refine pN 25 65 M63 ?_;refine pN 26 66 M64 ?_;refine pN 27 67 M65 ?_;refine pN 28 68 M66 ?_;refine pN 29 69 M67 ?_;refine pN 30 70 M68 ?_;refine pN 31 71 M69 ?_;refine pU 32 72 M70 ?_
              refine done_ (done_of HT_.out (by kernel_rfl)) ?_
              try go_wp2
              go_ret
              exact ⟨by first | rfl | (simp [errW_none,errW_some] <;> rfl) | (simp only [← bC];first | rfl | (simp [errW_none,errW_some] <;> rfl)) | (simp [*,errW_none,errW_some] <;> rfl),Z2⟩
             ·rw [if_neg b4] at H
              have cA : decide ((rd aA aB) ≤ (rd aA (aM))) = false:=df b4;clear b4;replace H:=bS H;obtain ⟨a9,cB,H⟩:=H
              try dsimp only at H
              have dW:=A_ cB;clear cB;replace H:=bS H;obtain ⟨cC,cD,H⟩:=H
              try dsimp only at H
              have dX:=A_ cD;clear cD
              by_cases cT : cC = true
              ·subst cT
               rw [if_pos rfl] at H;have H':=A_ H;clear H
               try go_wp2
               have aY:=A_ (Kd.N_drew aF.out);have aZ:=A_ (Kd.R_drew aD.out);have a0:=A_ (below_drew1 HB.out);clear aF aD HB;have aF:=aY;have aD:=aZ;have HB:=a0;clear aY aZ a0;have aG : 0 ≤ (aB : Int):=odt;have aH : aB < (aA.length : Int):=odt;obtain ⟨aC,aO,aE⟩:=Kd.at_int (Kd.R_reads' aD.out).2.2 aB aG aH;cases aO;replace aG:=eq_true aG;replace aH:=eq_true aH;have aP : 0 ≤ ((aM) : Int):=odt;have aQ : (aM) < (aA.length : Int):=odt;obtain ⟨a3,bD,aJ⟩:=Kd.at_int (Kd.R_reads' aD.out).2.2 (aM) aP aQ;obtain rfl : aC = a3:=(by injection bD);replace aP:=eq_true aP;replace aQ:=eq_true aQ;have aR : 0 ≤ (aB : Int):=odt;have aS : aB < (aA.length : Int):=odt;obtain ⟨a4,bE,aK⟩:=Kd.at_int (Kd.R_reads' aD.out).2.2 aB aR aS;obtain rfl : aC = a4:=(by injection bE);replace aR:=eq_true aR;replace aS:=eq_true aS;have a5 : 0 ≤ (aB : Int):=odt;have a6 : aB < (aA.length : Int):=odt;obtain ⟨bG,bO,aT⟩:=Kd.at_int (Kd.R_reads' aD.out).2.2 aB a5 a6;obtain rfl : aC = bG:=(by injection bO);replace a5:=eq_true a5;replace a6:=eq_true a6
               refine start_ (n:=33) (S:=fun w' => w'.cell? (aC.add (aB).toNat) = some (.int .i64 (rd aA aB)) ∧ w'.cell? (aC.add ((aM)).toNat) = some (.int .i64 (rd aA (aM))) ∧ w'.cell? (aC.add (aB).toNat) = some (.int .i64 (rd aA aB)) ∧ w'.cell? (aC.add (aB).toNat) = some (.int .i64 (rd aA aB))) (ds:=[]) M37 (by kernel_rfl) rfl rfl ⟨aE,aJ,aK,aT⟩ (fun hHeld => ?_);refine with_tabW laws_FnProgBelow.tab12 laws_FnProgBelow.bits12 (fun HT_ HW_ => ?_)
               generalize wr.drew = d8 at aF aD HB aE aJ aK aT hHeld ⊢;refine pU 0 40 M38 ?_;refine pU 1 41 M39 ?_;refine pU 2 42 M40 ?_;refine pU 4 44 M41 ?_;refine tU 3 43 M42 ?_ (y:=Z59);refine pU 5 45 M43 ?_;refine pU 6 46 M44 ?_;refine pU 7 47 M45 ?_;refine pU 8 48 M46 ?_;refine pU 9 49 M47 ?_;refine pU 10 50 M48 ?_;refine pU 11 51 M49 ?_;refine pU 12 52 M50 ?_;refine pU 13 53 M51 ?_;refine pU 15 55 M71 ?_;refine pU 16 56 M72 ?_;refine pU 17 57 M73 ?_;refine tU 14 54 M55 ?_ (y:=Z59);refine tU 18 58 M56 ?_ (y:=Z59);refine pU 19 59 M57 ?_;refine pU 20 60 M58 ?_;refine pU 21 61 M59 ?_;refine pU 22 62 M60 ?_;refine pU 23 63 M61 ?_;refine pU 24 64 M62 ?_;refine pU 25 65 M63 ?_;refine pU 26 66 M64 ?_;refine pU 29 69 M74 ?_;refine tU 27 67 M75 ?_ (y:=Z59)
               refine oU 28 (some 68) M67 (fun K hK => ?_)
               refine goes_ Try.func5 (by kernel_rfl) rfl #[.slice bU aI.length bV,.int .i64 (rd aA aB)] (by rfl) rfl rfl Z25 ?_
               with_reducible refine (impl_ProgBelow.calls k2 _ _ aI (rd aA aB) a9 _ ?s1 ?s2 dW.out).mono ?_
               (case s1 => exact Z43 aF.out)
               (case s2 => exact (Kd.N_reads' aF.out).2.1)
               rintro e d9 ⟨cE,rfl,aV,hb⟩
               have bH:=(hb.cell (World.block_lt_of_cell? _ _ (hHeld.1))).trans (hHeld.1);have bI:=(hb.cell (World.block_lt_of_cell? _ _ (hHeld.2.1))).trans (hHeld.2.1);have bW:=(hb.cell (World.block_lt_of_cell? _ _ (hHeld.2.2.1))).trans (hHeld.2.2.1);have bX:=(hb.cell (World.block_lt_of_cell? _ _ (hHeld.2.2.2))).trans (hHeld.2.2.2)
               refine ⟨_,rfl,?_⟩
               have aY:=A_ (Kd.N_elder' (Z21 aF.out) (Kd.R_base aV) hb);have aZ:=A_ (Kd.R_elder' (Z17 aD.out) (Kd.R_base aV) hb);have a0:=A_ (Kd.R_lower (Kd.R_new' aV (Kd.R_lt (Z17 aD.out))) (bz Z2));have bP:=A_ (bst Z2 hb);clear aF aD HB;have aF:=aY;have aD:=aZ;have aW:=a0;have HB:=bP;clear aY aZ a0 bP;(try clear hb);(try clear dB);(try clear hk);(try clear hi);(try clear aV);obtain ⟨dC,dD,cF⟩:=Kd.R_slice aW.out;(first | subst cF | (injection cF with bQ bY bR;have bZ:=bQ.symm;have b0:=bR.symm;clear bQ bY bR;subst bZ;subst b0))
               refine hK.out _ _ ⟨bH,bI,bW,bX⟩ (fun hHeld => ?_)
               clear hK K
               refine norm_ (a':=?_) ?_ ?_
               rotate_left;(·exact Z66)
               refine oU 30 (some 70) M68 (fun K hK => ?_)
               refine goes_ Try.func8 (by kernel_rfl) rfl #[.slice dC a9.length dD,.slice (some aC) aA.length bB] (by rfl) rfl rfl Z25 ?_
               with_reducible refine (spec_AllIn.calls k2 _ _ a9 _ _ aA true _ ?s1 ?s2 ?s3 ?s4 dX.out).mono ?_
               (case s1 => exact Z32 aW.out)
               (case s2 => exact (Kd.R_reads' aW.out).2.1)
               (case s3 => exact Z32 aD.out)
               (case s4 => exact (Kd.R_reads' aD.out).2.1)
               rintro e w' ⟨rfl,⟨nd,rfl⟩⟩
               refine ⟨_,rfl,?_⟩
               refine hK.out _ _ ⟨hHeld.1,hHeld.2.1,hHeld.2.2.1,hHeld.2.2.2⟩ (fun hHeld => ?_)
               clear hK K
               refine norm_ (a':=?_) ?_ ?_
               rotate_left;(·exact Z65);refine pU 31 71 M69 ?_;refine pU 32 72 M70 ?_
               refine done_ (done_of HT_.out (by kernel_rfl)) ?_
               try go_wp2
               go_roundg k2
               case measure => have:=cO.out;have:=HK2.out;omega
               case rel => exact ⟨(wrap64 (aB + 1)),Z22,H',⟨by have:=cO.out;have:=HK2.out;omega⟩,⟨Z58 aF.out⟩,⟨Z55 aD.out⟩,⟨Z2⟩⟩
              ·replace cT:=Bool.eq_false_iff.mpr cT
               subst cT;rw [if_neg (show ¬ (false = true) by decide)] at H;obtain rfl:=Option.some.inj H
               try go_wp2
               have aY:=A_ (Kd.N_drew aF.out);have aZ:=A_ (Kd.R_drew aD.out);have a0:=A_ (below_drew1 HB.out);clear aF aD HB;have aF:=aY;have aD:=aZ;have HB:=a0;clear aY aZ a0;have aG : 0 ≤ (aB : Int):=odt;have aH : aB < (aA.length : Int):=odt;obtain ⟨aC,aO,aE⟩:=Kd.at_int (Kd.R_reads' aD.out).2.2 aB aG aH;cases aO;replace aG:=eq_true aG;replace aH:=eq_true aH;have aP : 0 ≤ ((aM) : Int):=odt;have aQ : (aM) < (aA.length : Int):=odt;obtain ⟨a3,bD,aJ⟩:=Kd.at_int (Kd.R_reads' aD.out).2.2 (aM) aP aQ;obtain rfl : aC = a3:=(by injection bD);replace aP:=eq_true aP;replace aQ:=eq_true aQ;have aR : 0 ≤ (aB : Int):=odt;have aS : aB < (aA.length : Int):=odt;obtain ⟨a4,bE,aK⟩:=Kd.at_int (Kd.R_reads' aD.out).2.2 aB aR aS;obtain rfl : aC = a4:=(by injection bE);replace aR:=eq_true aR;replace aS:=eq_true aS;have a5 : 0 ≤ (aB : Int):=odt;have a6 : aB < (aA.length : Int):=odt;obtain ⟨bG,bO,aT⟩:=Kd.at_int (Kd.R_reads' aD.out).2.2 aB a5 a6;obtain rfl : aC = bG:=(by injection bO);replace a5:=eq_true a5;replace a6:=eq_true a6
               refine start_ (n:=33) (S:=fun w' => w'.cell? (aC.add (aB).toNat) = some (.int .i64 (rd aA aB)) ∧ w'.cell? (aC.add ((aM)).toNat) = some (.int .i64 (rd aA (aM))) ∧ w'.cell? (aC.add (aB).toNat) = some (.int .i64 (rd aA aB)) ∧ w'.cell? (aC.add (aB).toNat) = some (.int .i64 (rd aA aB))) (ds:=[]) M37 (by kernel_rfl) rfl rfl ⟨aE,aJ,aK,aT⟩ (fun hHeld => ?_);refine with_tabW laws_FnProgBelow.tab12 laws_FnProgBelow.bits12 (fun HT_ HW_ => ?_)
               generalize wr.drew = eA at aF aD HB aE aJ aK aT hHeld ⊢;refine pU 0 40 M38 ?_;refine pU 1 41 M39 ?_;refine pU 2 42 M40 ?_;refine pU 4 44 M41 ?_;refine tU 3 43 M42 ?_ (y:=Z59);refine pU 5 45 M43 ?_;refine pU 6 46 M44 ?_;refine pU 7 47 M45 ?_;refine pU 8 48 M46 ?_;refine pU 9 49 M47 ?_;refine pU 10 50 M48 ?_;refine pU 11 51 M49 ?_;refine pU 12 52 M50 ?_;refine pU 13 53 M51 ?_;refine pU 15 55 M71 ?_;refine pU 16 56 M72 ?_;refine pU 17 57 M73 ?_;refine tU 14 54 M55 ?_ (y:=Z59);refine tU 18 58 M56 ?_ (y:=Z59);refine pU 19 59 M57 ?_;refine pU 20 60 M58 ?_;refine pU 21 61 M59 ?_;refine pU 22 62 M60 ?_;refine pU 23 63 M61 ?_;refine pU 24 64 M62 ?_;refine pU 25 65 M63 ?_;refine pU 26 66 M64 ?_;refine pU 29 69 M74 ?_;refine tU 27 67 M75 ?_ (y:=Z59)
               refine oU 28 (some 68) M67 (fun K hK => ?_)
               refine goes_ Try.func5 (by kernel_rfl) rfl #[.slice bU aI.length bV,.int .i64 (rd aA aB)] (by rfl) rfl rfl Z25 ?_
               with_reducible refine (impl_ProgBelow.calls k2 _ _ aI (rd aA aB) a9 _ ?s1 ?s2 dW.out).mono ?_
               (case s1 => exact Z43 aF.out)
               (case s2 => exact (Kd.N_reads' aF.out).2.1)
               rintro e eB ⟨cE,rfl,aV,hb⟩
               have bH:=(hb.cell (World.block_lt_of_cell? _ _ (hHeld.1))).trans (hHeld.1);have bI:=(hb.cell (World.block_lt_of_cell? _ _ (hHeld.2.1))).trans (hHeld.2.1);have bW:=(hb.cell (World.block_lt_of_cell? _ _ (hHeld.2.2.1))).trans (hHeld.2.2.1);have bX:=(hb.cell (World.block_lt_of_cell? _ _ (hHeld.2.2.2))).trans (hHeld.2.2.2)
               refine ⟨_,rfl,?_⟩
               have aY:=A_ (Kd.N_elder' (Z21 aF.out) (Kd.R_base aV) hb);have aZ:=A_ (Kd.R_elder' (Z17 aD.out) (Kd.R_base aV) hb);have a0:=A_ (Kd.R_lower (Kd.R_new' aV (Kd.R_lt (Z17 aD.out))) (bz Z2));have bP:=A_ (bst Z2 hb);clear aF aD HB;have aF:=aY;have aD:=aZ;have aW:=a0;have HB:=bP;clear aY aZ a0 bP;(try clear hb);(try clear dB);(try clear hk);(try clear hi);(try clear aV);obtain ⟨dE,dF,cG⟩:=Kd.R_slice aW.out;(first | subst cG | (injection cG with bQ bY bR;have bZ:=bQ.symm;have b0:=bR.symm;clear bQ bY bR;subst bZ;subst b0))
               refine hK.out _ _ ⟨bH,bI,bW,bX⟩ (fun hHeld => ?_)
               clear hK K
               refine norm_ (a':=?_) ?_ ?_
               rotate_left;(·exact Z66)
               refine oU 30 (some 70) M68 (fun K hK => ?_)
               refine goes_ Try.func8 (by kernel_rfl) rfl #[.slice dE a9.length dF,.slice (some aC) aA.length bB] (by rfl) rfl rfl Z25 ?_
               with_reducible refine (spec_AllIn.calls k2 _ _ a9 _ _ aA false _ ?s1 ?s2 ?s3 ?s4 dX.out).mono ?_
               (case s1 => exact Z32 aW.out)
               (case s2 => exact (Kd.R_reads' aW.out).2.1)
               (case s3 => exact Z32 aD.out)
               (case s4 => exact (Kd.R_reads' aD.out).2.1)
               rintro e w' ⟨rfl,⟨nd,rfl⟩⟩
               refine ⟨_,rfl,?_⟩
               refine hK.out _ _ ⟨hHeld.1,hHeld.2.1,hHeld.2.2.1,hHeld.2.2.2⟩ (fun hHeld => ?_)
               clear hK K
               refine norm_ (a':=?_) ?_ ?_
               rotate_left;(·exact Z65);refine pU 31 71 M69 ?_;refine pU 32 72 M70 ?_
               refine done_ (done_of HT_.out (by kernel_rfl)) ?_
               try go_wp2
               go_ret
               exact ⟨by first | rfl | (simp [errW_none,errW_some] <;> rfl) | (simp only [← bC];first | rfl | (simp [errW_none,errW_some] <;> rfl)) | (simp [*,errW_none,errW_some] <;> rfl),Z2⟩
            ·rw [if_neg cS] at H
             exact absurd H (by simp)
           ·rw [if_neg cR] at H
            exact absurd H (by simp)
          ·rw [if_neg b3] at H
           have b9 : decide (0 < aB) = false:=df b3;clear b3;replace H:=bS H;obtain ⟨bA,cH,H⟩:=H
           try dsimp only at H
           have dY:=A_ cH;clear cH;replace H:=bS H;obtain ⟨cI,cJ,H⟩:=H
           try dsimp only at H
           have dZ:=A_ cJ;clear cJ
           by_cases cU : cI = true
           ·subst cU
            rw [if_pos rfl] at H;have H':=A_ H;clear H
            try go_wp2
            have aY:=A_ (Kd.N_drew aF.out);have aZ:=A_ (Kd.R_drew aD.out);have a0:=A_ (below_drew1 HB.out);clear aF aD HB;have aF:=aY;have aD:=aZ;have HB:=a0;clear aY aZ a0;have aG : 0 ≤ (aB : Int):=odt;have aH : aB < (aA.length : Int):=odt;obtain ⟨aC,aO,aE⟩:=Kd.at_int (Kd.R_reads' aD.out).2.2 aB aG aH;cases aO;replace aG:=eq_true aG;replace aH:=eq_true aH;have a7 : 0 ≤ (aB : Int):=odt;have a8 : aB < (aA.length : Int):=odt;obtain ⟨bJ,bT,aU⟩:=Kd.at_int (Kd.R_reads' aD.out).2.2 aB a7 a8;obtain rfl : aC = bJ:=(by injection bT);replace a7:=eq_true a7;replace a8:=eq_true a8
            refine start_ (n:=33) (S:=fun w' => w'.cell? (aC.add (aB).toNat) = some (.int .i64 (rd aA aB)) ∧ w'.cell? (aC.add (aB).toNat) = some (.int .i64 (rd aA aB))) (ds:=[]) M37 (by kernel_rfl) rfl rfl ⟨aE,aU⟩ (fun hHeld => ?_);refine with_tabW laws_FnProgBelow.tab12 laws_FnProgBelow.bits12 (fun HT_ HW_ => ?_)
            generalize wr.drew = eC at aF aD HB aE aU hHeld ⊢;refine pU 0 40 M38 ?_;refine pU 1 41 M39 ?_;refine pU 2 42 M40 ?_;refine pU 4 44 M41 ?_;refine take_ (i:=3) (N:=some 43) (v:=?_) (a':=?_) M42 rfl rfl (take_ofW HT_.out HW_.out (by kernel_rfl)) ZF (Or.inl ⟨by rfl,?_⟩) hHeld ?_ ?_;rotate_left
            ·rintro w' ⟨s0,s1⟩
             go_simp
             with_reducible rfl
            rotate_left;(·exact Z0);refine pU 5 45 M43 ?_;refine pU 6 46 M44 ?_;refine pU 7 47 M45 ?_;refine pU 8 48 M46 ?_;refine pU 9 49 M47 ?_;refine pN 10 50 M48 ?_;refine pN 11 51 M49 ?_;refine pN 12 52 M50 ?_;refine pN 13 53 M51 ?_;refine pN 14 54 M52 ?_;refine pN 15 55 M53 ?_;refine pN 16 56 M54 ?_;refine pN 17 57 M55 ?_;refine pN 18 58 M56 ?_;refine pN 19 59 M57 ?_;refine pU 20 60 M58 ?_;refine pU 21 61 M59 ?_;refine pU 22 62 M60 ?_;refine pU 23 63 M61 ?_;refine pU 24 64 M62 ?_;refine pU 25 65 M63 ?_;refine pU 26 66 M64 ?_;refine pU 29 69 M74 ?_;refine take_ (i:=27) (N:=some 67) (v:=?_) (a':=?_) M75 rfl rfl (take_ofW HT_.out HW_.out (by kernel_rfl)) ZF (Or.inl ⟨by rfl,?_⟩) hHeld ?_ ?_
            rotate_left
            ·rintro w' ⟨s0,s1⟩
             go_simp
             with_reducible rfl
            rotate_left;(·exact Z0)
            refine oU 28 (some 68) M67 (fun K hK => ?_)
            refine goes_ Try.func5 (by kernel_rfl) rfl #[.slice bU aI.length bV,.int .i64 (rd aA aB)] (by rfl) rfl rfl Z25 ?_
            with_reducible refine (impl_ProgBelow.calls k2 _ _ aI (rd aA aB) bA _ ?s1 ?s2 dY.out).mono ?_
            (case s1 => exact Z43 aF.out)
            (case s2 => exact (Kd.N_reads' aF.out).2.1)
            rintro e eD ⟨cK,rfl,aV,hb⟩
            have bH:=(hb.cell (World.block_lt_of_cell? _ _ (hHeld.1))).trans (hHeld.1);have bI:=(hb.cell (World.block_lt_of_cell? _ _ (hHeld.2))).trans (hHeld.2)
            refine ⟨_,rfl,?_⟩
            have aY:=A_ (Kd.N_elder' (Z21 aF.out) (Kd.R_base aV) hb);have aZ:=A_ (Kd.R_elder' (Z17 aD.out) (Kd.R_base aV) hb);have a0:=A_ (Kd.R_lower (Kd.R_new' aV (Kd.R_lt (Z17 aD.out))) (bz Z2));have bP:=A_ (bst Z2 hb);clear aF aD HB;have aF:=aY;have aD:=aZ;have aX:=a0;have HB:=bP;clear aY aZ a0 bP;(try clear hb);(try clear dB);(try clear hk);(try clear hi);(try clear aV);obtain ⟨dG,dH,cL⟩:=Kd.R_slice aX.out;(first | subst cL | (injection cL with bQ bY bR;have bZ:=bQ.symm;have b0:=bR.symm;clear bQ bY bR;subst bZ;subst b0))
            refine hK.out _ _ ⟨bH,bI⟩ (fun hHeld => ?_)
            clear hK K
            refine norm_ (a':=?_) ?_ ?_
            rotate_left;(·exact Z66)
            refine oU 30 (some 70) M68 (fun K hK => ?_)
            refine goes_ Try.func8 (by kernel_rfl) rfl #[.slice dG bA.length dH,.slice (some aC) aA.length bB] (by rfl) rfl rfl Z25 ?_
            with_reducible refine (spec_AllIn.calls k2 _ _ bA _ _ aA true _ ?s1 ?s2 ?s3 ?s4 dZ.out).mono ?_
            (case s1 => exact Z32 aX.out)
            (case s2 => exact (Kd.R_reads' aX.out).2.1)
            (case s3 => exact Z32 aD.out)
            (case s4 => exact (Kd.R_reads' aD.out).2.1)
            rintro e w' ⟨rfl,⟨nd,rfl⟩⟩
            refine ⟨_,rfl,?_⟩
            refine hK.out _ _ ⟨hHeld.1,hHeld.2⟩ (fun hHeld => ?_)
            clear hK K
            refine norm_ (a':=?_) ?_ ?_
            rotate_left;(·exact Z65);refine pU 31 71 M69 ?_;refine pU 32 72 M70 ?_
            refine done_ (done_of HT_.out (by kernel_rfl)) ?_
            try go_wp2
            go_roundg k2
            case measure => have:=cO.out;have:=HK2.out;omega
            case rel => exact ⟨(wrap64 (aB + 1)),Z22,H',⟨by have:=cO.out;have:=HK2.out;omega⟩,⟨Z58 aF.out⟩,⟨Z55 aD.out⟩,⟨Z2⟩⟩
           ·replace cU:=Bool.eq_false_iff.mpr cU
            subst cU;rw [if_neg (show ¬ (false = true) by decide)] at H;obtain rfl:=Option.some.inj H
            try go_wp2
            have aY:=A_ (Kd.N_drew aF.out);have aZ:=A_ (Kd.R_drew aD.out);have a0:=A_ (below_drew1 HB.out);clear aF aD HB;have aF:=aY;have aD:=aZ;have HB:=a0;clear aY aZ a0;have aG : 0 ≤ (aB : Int):=odt;have aH : aB < (aA.length : Int):=odt;obtain ⟨aC,aO,aE⟩:=Kd.at_int (Kd.R_reads' aD.out).2.2 aB aG aH;cases aO;replace aG:=eq_true aG;replace aH:=eq_true aH;have a7 : 0 ≤ (aB : Int):=odt;have a8 : aB < (aA.length : Int):=odt;obtain ⟨bJ,bT,aU⟩:=Kd.at_int (Kd.R_reads' aD.out).2.2 aB a7 a8;obtain rfl : aC = bJ:=(by injection bT);replace a7:=eq_true a7;replace a8:=eq_true a8
            refine start_ (n:=33) (S:=fun w' => w'.cell? (aC.add (aB).toNat) = some (.int .i64 (rd aA aB)) ∧ w'.cell? (aC.add (aB).toNat) = some (.int .i64 (rd aA aB))) (ds:=[]) M37 (by kernel_rfl) rfl rfl ⟨aE,aU⟩ (fun hHeld => ?_);refine with_tabW laws_FnProgBelow.tab12 laws_FnProgBelow.bits12 (fun HT_ HW_ => ?_)
            generalize wr.drew = eE at aF aD HB aE aU hHeld ⊢;refine pU 0 40 M38 ?_;refine pU 1 41 M39 ?_;refine pU 2 42 M40 ?_;refine pU 4 44 M41 ?_;refine take_ (i:=3) (N:=some 43) (v:=?_) (a':=?_) M42 rfl rfl (take_ofW HT_.out HW_.out (by kernel_rfl)) ZF (Or.inl ⟨by rfl,?_⟩) hHeld ?_ ?_;rotate_left
            ·rintro w' ⟨s0,s1⟩
             go_simp
             with_reducible rfl
            rotate_left;(·exact Z0);refine pU 5 45 M43 ?_;refine pU 6 46 M44 ?_;refine pU 7 47 M45 ?_;refine pU 8 48 M46 ?_;refine pU 9 49 M47 ?_;refine pN 10 50 M48 ?_;refine pN 11 51 M49 ?_;refine pN 12 52 M50 ?_;refine pN 13 53 M51 ?_;refine pN 14 54 M52 ?_;refine pN 15 55 M53 ?_;refine pN 16 56 M54 ?_;refine pN 17 57 M55 ?_;refine pN 18 58 M56 ?_;refine pN 19 59 M57 ?_;refine pU 20 60 M58 ?_;refine pU 21 61 M59 ?_;refine pU 22 62 M60 ?_;refine pU 23 63 M61 ?_;refine pU 24 64 M62 ?_;refine pU 25 65 M63 ?_;refine pU 26 66 M64 ?_;refine pU 29 69 M74 ?_;refine take_ (i:=27) (N:=some 67) (v:=?_) (a':=?_) M75 rfl rfl (take_ofW HT_.out HW_.out (by kernel_rfl)) ZF (Or.inl ⟨by rfl,?_⟩) hHeld ?_ ?_
            rotate_left
            ·rintro w' ⟨s0,s1⟩
             go_simp
             with_reducible rfl
            rotate_left;(·exact Z0)
            refine oU 28 (some 68) M67 (fun K hK => ?_)
            refine goes_ Try.func5 (by kernel_rfl) rfl #[.slice bU aI.length bV,.int .i64 (rd aA aB)] (by rfl) rfl rfl Z25 ?_
            with_reducible refine (impl_ProgBelow.calls k2 _ _ aI (rd aA aB) bA _ ?s1 ?s2 dY.out).mono ?_
            (case s1 => exact Z43 aF.out)
            (case s2 => exact (Kd.N_reads' aF.out).2.1)
            rintro e eF ⟨cK,rfl,aV,hb⟩
            have bH:=(hb.cell (World.block_lt_of_cell? _ _ (hHeld.1))).trans (hHeld.1);have bI:=(hb.cell (World.block_lt_of_cell? _ _ (hHeld.2))).trans (hHeld.2)
            refine ⟨_,rfl,?_⟩
            have aY:=A_ (Kd.N_elder' (Z21 aF.out) (Kd.R_base aV) hb);have aZ:=A_ (Kd.R_elder' (Z17 aD.out) (Kd.R_base aV) hb);have a0:=A_ (Kd.R_lower (Kd.R_new' aV (Kd.R_lt (Z17 aD.out))) (bz Z2));have bP:=A_ (bst Z2 hb);clear aF aD HB;have aF:=aY;have aD:=aZ;have aX:=a0;have HB:=bP;clear aY aZ a0 bP;(try clear hb);(try clear dB);(try clear hk);(try clear hi);(try clear aV);obtain ⟨dI,dJ,cM⟩:=Kd.R_slice aX.out;(first | subst cM | (injection cM with bQ bY bR;have bZ:=bQ.symm;have b0:=bR.symm;clear bQ bY bR;subst bZ;subst b0))
            refine hK.out _ _ ⟨bH,bI⟩ (fun hHeld => ?_)
            clear hK K
            refine norm_ (a':=?_) ?_ ?_
            rotate_left;(·exact Z66)
            refine oU 30 (some 70) M68 (fun K hK => ?_)
            refine goes_ Try.func8 (by kernel_rfl) rfl #[.slice dI bA.length dJ,.slice (some aC) aA.length bB] (by rfl) rfl rfl Z25 ?_
            with_reducible refine (spec_AllIn.calls k2 _ _ bA _ _ aA false _ ?s1 ?s2 ?s3 ?s4 dZ.out).mono ?_
            (case s1 => exact Z32 aX.out)
            (case s2 => exact (Kd.R_reads' aX.out).2.1)
            (case s3 => exact Z32 aD.out)
            (case s4 => exact (Kd.R_reads' aD.out).2.1)
            rintro e w' ⟨rfl,⟨nd,rfl⟩⟩
            refine ⟨_,rfl,?_⟩
            refine hK.out _ _ ⟨hHeld.1,hHeld.2⟩ (fun hHeld => ?_)
            clear hK K
            refine norm_ (a':=?_) ?_ ?_
            rotate_left;(·exact Z65);refine pU 31 71 M69 ?_;refine pU 32 72 M70 ?_
            refine done_ (done_of HT_.out (by kernel_rfl)) ?_
            try go_wp2
            go_ret
            exact ⟨Z12,Z2⟩
        ·rw [if_neg cQ] at H
         exact absurd H (by simp)
       ·rw [if_neg b1] at H
        have b7:=df b1;clear b1;obtain rfl:=Option.some.inj H
        go_wp2
        go_ret
        exact ⟨Z12,Z2⟩
def laws_FnProgBelow.Pure : Prop:=∀ (l0 : List Int),l0.length ≤ maxLen → l0.length * 1 ≤ 140737488351232 → (∀ x ∈ l0,(Lit.int .u8 x).wf = true) → ∃ k,laws_FnProgBelow.f k l0 = some true
theorem laws_FnProgBelow.walk (P : laws_FnProgBelow.Pure) (a0 : Option Addr) (aB aA : Nat) (z0 : List Int) (w : World) (w0 : (a0 = none ∧ aB = 0 ∧ aA = 0 ∧ z0 = []) ∨ ∃ x,a0 = some x ∧ aB ≤ aA ∧ aA ≤ maxLen ∧ z0.length = aA ∧ (∀ i,i < z0.length → w.cell? (x.add i) = some (.int .u8 (z0.getD i 0))) ∧ ∀ n ∈ z0,(Lit.int .u8 n).wf = true) (y0 : aB * 1 ≤ 140737488351232) :
  Calls Try.prog 3 #[.slice a0 aB aA] w fun e w' => e = .returned (.bool true) ∧ Below w.heap.size w w':=by
 obtain ⟨l0,rfl,aC,aD,aE,hc0⟩:=ReadsInt.ofRowC w0;obtain ⟨k,h⟩:=P l0 aD y0 aE
 refine (laws_FnProgBelow.calls k _ _ l0 true w (Kd.C_of_reads (d:=(0 : Int)) (h1:=fun _ => rfl) aC) hc0 h).mono ?_
 rintro e w' ⟨rfl,hd⟩
 exact ⟨rfl,hd⟩
end Go.Proofs.Ytmgdjmeoljepgaa.PFnProgBelow
