/- Walks (lines of the print; no condition). -/
import Derived.Test.YtmgdjmeoljepgaaZFnProgBelowQFnProgBelowx2
namespace Go.Proofs.Ytmgdjmeoljepgaa.PFnProgBelow
open Go.RowKit Go.Proofs.YtmgdjmeoljepgaaW.PrintWords Go.Proofs.YtmgdjmeoljepgaaW.PrintLast Go.Proofs.YtmgdjmeoljepgaaW.PrintMore
attribute [local go_sem] max2_int min2_int max_two min_two max_three min_three max_four min_four
set_option linter.unusedVariables false
set_option linter.unusedSimpArgs false
def spec_validOns.l0 : Nat → List (S76) → Int → Int → Option (Bool)
 | 0,_,_,_ => none
 | k + 1,x0,x1,x5 => if x5 < (x0.length : Int) then (if 0 ≤ x5 then ((spec_inRange.f ((rd_T76 x0 x5).f0) 0 2).bind fun aA => (if aA = true then ((spec_inRange.f ((rd_T76 x0 x5).f1) 0 (wrap64 (x1 - 1))).bind fun aB => (if aB = true then (if x5 > 0 then (if 0 ≤ (wrap64 (x5 - 1)) then (if (wrap64 (x5 - 1)) < (x0.length : Int) then (if ((rd_T76 x0 x5).f0) ≤ ((rd_T76 x0 (wrap64 (x5 - 1))).f0) then (some false) else (spec_validOns.l0 k x0 x1 (wrap64 (x5 + 1)))) else (none)) else (none)) else (spec_validOns.l0 k x0 x1 (wrap64 (x5 + 1)))) else (some false))) else (some false))) else (none)) else (some true)
def spec_validOns.f (k : Nat) (l0 : List (S76)) (a1 : Int) : Option (Bool):=spec_validOns.l0 k l0 a1 0
def spec_validOns.T4 : Bool × List (List Nat × List Nat):=(true,[([],[]),([],[]),([0,1],[0,1]),([2],[2]),([3],[3]),([4],[4]),([5],[5]),([6,5],[6]),([7],[7]),([7],[7]),([8,9,7],[7,8,9]),([10,7],[7,10]),([11,7],[7,11]),([7],[7]),([13,7],[7,13]),([12,14,7,7],[7,12,14]),([15,7],[7,15]),([7,16],[7,16]),([17,15],[17]),([18],[18]),([19,18],[18,19]),([20,18,18],[18,20]),([21],[21]),([21],[21]),([22,23,21],[21,22,23]),([24,21],[21,24]),([25,21],[21,25]),([21],[21]),([21],[21]),([28,21],[21,28]),([27,29,21],[21,27,29]),([30,21],[21,30]),([31,21],[21,31]),([26,32,21],[21,26,32]),([21,33,18],[18,21,33]),([18,34],[18,34])])
def spec_validOns.B4 : List Nat:=[0,0,3,7,15,31,63,127,255,255,1023,2047,4095,255,8447,32767,65535,131071,262143,524287,1048575,2097151,4194303,4194303,16777215,33554431,67108863,4194303,4194303,272629759,943718399,2017460223,4164943871,8589934591,17179869183,34359738367]
theorem spec_validOns.tab4 : rtab .any (opsOf Try.f52 4) = spec_validOns.T4:=by kernel_rfl
theorem spec_validOns.bits4 : waitsOk spec_validOns.T4.2 spec_validOns.B4 = true:=by kernel_rfl
set_option maxHeartbeats 8000000 in
set_option maxRecDepth 100000 in
theorem spec_validOns.calls (k : Nat) (A0 : Option Addr) (c0 : Nat) (l0 : List (S76)) (a1 : Int) (r : Bool) (w : World) (bL : Kd.C k76 w A0 l0.length l0) (hc0 : l0.length ≤ c0) (h : spec_validOns.f k l0 a1 = some r) :
  Calls Try.prog 52 #[.slice A0 l0.length c0,.int .i64 a1] w fun e w' => e = .returned (.bool r) ∧ Below w.heap.size w w':=by
 have a6:=A_ bL;have bR:=A_ hc0;clear bL hc0;have HB:=A_ (Below.refl w.heap.size w);have H:=h;unfold spec_validOns.f at H;clear h;have H':=A_ H;clear H
 go_enter Try.func52,Try.ntmps52
 go_wp2
 go_loopg [5] k (fun kq v5 w' => ∃ (aA : Int),v5 = .int .i64 aA ∧ Aside0 (spec_validOns.l0 kq l0 a1 aA = some r) ∧ Aside0 (kq ≤ k) ∧ Aside0 (Below w.heap.size w w'))
 case atStart => exact ⟨(0),Z22,H',⟨Nat.le_refl _⟩,⟨Z2⟩⟩
 case round =>
  clear H';obtain ⟨aA,rfl,HA,bD,HB⟩:=hrel
  cases gk with
  | zero => exact absurd HA.out (by simp [spec_validOns.l0])
  | succ k1 =>
   have H:=HA.out;clear HA;simp only [spec_validOns.l0] at H
   by_cases c3 : aA < (l0.length : Int)
   ·rw [if_pos c3] at H
    have bG:=dt c3;clear c3
    by_cases c4 : 0 ≤ aA
    ·rw [if_pos c4] at H
     have bQ:=dt c4;clear c4;replace H:=bS H;obtain ⟨bH,bM,H⟩:=H
     try dsimp only at H
     have A5:=A_ bM;clear bM
     by_cases c6 : bH = true
     ·subst c6
      rw [if_pos rfl] at H;replace H:=bS H;obtain ⟨bI,bN,H⟩:=H
      try dsimp only at H
      have A7:=A_ bN;clear bN
      by_cases c8 : bI = true
      ·subst c8
       rw [if_pos rfl] at H
       by_cases c9 : aA > 0
       ·rw [if_pos c9] at H
        have bJ : decide (0 < aA) = true:=dt c9;clear c9;obtain ⟨aO,aY⟩ : ∃ j_ : Int,(wrap64 (aA - 1)) = j_:=⟨_,rfl⟩
        first | rw [aY] at H | simp only [aY] at H
        (try rw [aY] at A5);(try rw [aY] at A7);have bK : (IntKind.i64.wrap (aA - 1)) = aO:=(i64_w _).trans aY
        by_cases bE : 0 ≤ (aO)
        ·rw [if_pos bE] at H
         have bO:=dt bE;clear bE
         by_cases bF : (aO) < (l0.length : Int)
         ·rw [if_pos bF] at H
          have bP:=dt bF;clear bF
          by_cases bB : ((rd_T76 l0 aA).f0) ≤ ((rd_T76 l0 (aO)).f0)
          ·rw [if_pos bB] at H
           have bC:=dt bB;clear bB;obtain rfl:=Option.some.inj H
           try go_wp2
           replace HB:=A_ (below_drew1 HB.out);have aP : 0 ≤ (aA : Int):=odt;have aQ : aA < (l0.length : Int):=odt;obtain ⟨aB,aZ,aC,aD⟩:=at_T76 a6.out aA aP aQ;have aG:=aD;have aH:=aC;cases aZ;replace aC:=ZC HB.out aC;replace aD:=ZC HB.out aD;replace aP:=eq_true aP;replace aQ:=eq_true aQ;have aV : 0 ≤ (aA : Int):=odt;have aW : aA < (l0.length : Int):=odt;obtain ⟨aX,a0,aE,aF⟩:=at_T76 a6.out aA aV aW;have aI:=aF;have aJ:=aE;obtain rfl : aB = aX:=(by injection a0);replace aE:=ZC HB.out aE;replace aF:=ZC HB.out aF;replace aV:=eq_true aV;replace aW:=eq_true aW;have a2 : 0 ≤ (aA : Int):=odt;have a3 : aA < (l0.length : Int):=odt;obtain ⟨a7,a9,aK,aL⟩:=at_T76 a6.out aA a2 a3;have aR:=aL;have aS:=aK;obtain rfl : aB = a7:=(by injection a9);replace aK:=ZC HB.out aK;replace aL:=ZC HB.out aL;replace a2:=eq_true a2;replace a3:=eq_true a3;have a4 : 0 ≤ ((aO) : Int):=odt;have a5 : (aO) < (l0.length : Int):=odt;obtain ⟨a8,bA,aM,aN⟩:=at_T76 a6.out (aO) a4 a5;have aT:=aN;have aU:=aM;obtain rfl : aB = a8:=(by injection bA);replace aM:=ZC HB.out aM;replace aN:=ZC HB.out aN
           replace a4:=eq_true a4;replace a5:=eq_true a5
           refine start_ (n:=36) (S:=fun w' => w'.cell? (aB.add ((aA).toNat * 2)) = some (.int .i64 ((rd_T76 l0 aA).f0)) ∧ w'.cell? ⟨(aB.add ((aA).toNat * 2)).block,(aB.add ((aA).toNat * 2)).off + 1,none⟩ = some (.int .i64 ((rd_T76 l0 aA).f1)) ∧ w'.cell? (aB.add ((aA).toNat * 2)) = some (.int .i64 ((rd_T76 l0 aA).f0)) ∧ w'.cell? ⟨(aB.add ((aA).toNat * 2)).block,(aB.add ((aA).toNat * 2)).off + 1,none⟩ = some (.int .i64 ((rd_T76 l0 aA).f1)) ∧ w'.cell? (aB.add ((aA).toNat * 2)) = some (.int .i64 ((rd_T76 l0 aA).f0)) ∧ w'.cell? ⟨(aB.add ((aA).toNat * 2)).block,(aB.add ((aA).toNat * 2)).off + 1,none⟩ = some (.int .i64 ((rd_T76 l0 aA).f1)) ∧ w'.cell? (aB.add (((aO)).toNat * 2)) = some (.int .i64 ((rd_T76 l0 (aO)).f0)) ∧ w'.cell? ⟨(aB.add (((aO)).toNat * 2)).block,(aB.add (((aO)).toNat * 2)).off + 1,none⟩ = some (.int .i64 ((rd_T76 l0 (aO)).f1))) (ds:=[]) M76 (by kernel_rfl) rfl rfl ⟨(ZC HB.out aH :),(ZC HB.out aG :),(ZC HB.out aJ :),(ZC HB.out aI :),(ZC HB.out aS :),(ZC HB.out aR :),(ZC HB.out aU :),(ZC HB.out aT :)⟩ (fun hHeld => ?_);refine with_tabW spec_validOns.tab4 spec_validOns.bits4 (fun HT_ HW_ => ?_)
           generalize wr.drew = bT at HB aC aD aE aF aK aL aM aN hHeld ⊢;refine pU 0 12 M77 ?_;refine pU 1 13 M78 ?_;refine pU 2 14 M79 ?_;refine pU 3 15 M80 ?_;refine tU 4 16 M81 ?_ (y:=Z62)
           refine oU 5 (some 17) M82 (fun K hK => ?_)
           refine goes_ Try.func17 (by kernel_rfl) rfl #[.int .i64 ((rd_T76 l0 aA).f0),.int .i64 0,.int .i64 2] (by rfl) rfl rfl Z25 ?_
           with_reducible refine (spec_inRange.calls ((rd_T76 l0 aA).f0) 0 2 true _ A5.out).mono ?_
           rintro e w' ⟨rfl,⟨nd,rfl⟩⟩
           refine ⟨_,rfl,?_⟩
           refine hK.out _ _ ⟨(ZC HB.out aH :),(ZC HB.out aG :),(ZC HB.out aJ :),(ZC HB.out aI :),(ZC HB.out aS :),(ZC HB.out aR :),(ZC HB.out aU :),(ZC HB.out aT :)⟩ (fun hHeld => ?_)
           clear hK K
           refine norm_ (a':=?_) ?_ ?_
           rotate_left;(·exact Z57);refine pU 6 18 M83 ?_;refine pU 7 19 M84 ?_;refine pU 8 20 M85 ?_;refine pU 9 21 M86 ?_;refine pU 10 22 M87 ?_;refine pU 11 23 M88 ?_;refine pU 13 25 M89 ?_;refine pU 14 26 M90 ?_;refine tU 12 24 M91 ?_ (y:=Z62)
           refine oU 15 (some 27) M92 (fun K hK => ?_)
           refine goes_ Try.func17 (by kernel_rfl) rfl #[.int .i64 ((rd_T76 l0 aA).f1),.int .i64 0,.int .i64 (wrap64 (a1 - 1))] (by rfl) rfl rfl Z25 ?_
           with_reducible refine (spec_inRange.calls ((rd_T76 l0 aA).f1) 0 (wrap64 (a1 - 1)) true _ A7.out).mono ?_
           rintro e w' ⟨rfl,⟨nd,rfl⟩⟩
           refine ⟨_,rfl,?_⟩
           refine hK.out _ _ ⟨(ZC HB.out aH :),(ZC HB.out aG :),(ZC HB.out aJ :),(ZC HB.out aI :),(ZC HB.out aS :),(ZC HB.out aR :),(ZC HB.out aU :),(ZC HB.out aT :)⟩ (fun hHeld => ?_)
           clear hK K
           refine norm_ (a':=?_) ?_ ?_
           rotate_left;(·exact Z68);refine pU 16 28 M93 ?_;refine pU 17 29 M94 ?_;refine pU 18 30 M95 ?_;refine pU 19 31 M96 ?_;refine pU 20 32 M97 ?_;refine pU 21 33 M98 ?_;refine pU 22 34 M99 ?_;refine pU 23 35 M100 ?_;refine pU 24 36 M101 ?_;refine pU 25 37 M102 ?_;refine pU 27 39 M103 ?_;refine pU 28 40 M104 ?_;refine pU 29 41 M105 ?_;refine pU 30 42 M106 ?_;refine pU 31 43 M107 ?_;refine tU 26 38 M108 ?_ (y:=Z62);refine tU 32 44 M109 ?_ (y:=Z62);refine pU 33 45 M110 ?_;refine pU 34 46 M111 ?_;refine pU 35 47 M112 ?_
           refine done_ (done_of HT_.out (by kernel_rfl)) ?_
           try go_wp2
           go_ret
           exact ⟨by first | rfl | (simp [errW_none,errW_some] <;> rfl) | (simp only [← aY];first | rfl | (simp [errW_none,errW_some] <;> rfl)) | (simp [*,errW_none,errW_some] <;> rfl),Z2⟩
          ·rw [if_neg bB] at H
           have bC:=df bB;clear bB;have H':=A_ H;clear H
           try go_wp2
           replace HB:=A_ (below_drew1 HB.out);have aP : 0 ≤ (aA : Int):=odt;have aQ : aA < (l0.length : Int):=odt;obtain ⟨aB,aZ,aC,aD⟩:=at_T76 a6.out aA aP aQ;have aG:=aD;have aH:=aC;cases aZ;replace aC:=ZC HB.out aC;replace aD:=ZC HB.out aD;replace aP:=eq_true aP;replace aQ:=eq_true aQ;have aV : 0 ≤ (aA : Int):=odt;have aW : aA < (l0.length : Int):=odt;obtain ⟨aX,a0,aE,aF⟩:=at_T76 a6.out aA aV aW;have aI:=aF;have aJ:=aE;obtain rfl : aB = aX:=(by injection a0);replace aE:=ZC HB.out aE;replace aF:=ZC HB.out aF;replace aV:=eq_true aV;replace aW:=eq_true aW;have a2 : 0 ≤ (aA : Int):=odt;have a3 : aA < (l0.length : Int):=odt;obtain ⟨a7,a9,aK,aL⟩:=at_T76 a6.out aA a2 a3;have aR:=aL;have aS:=aK;obtain rfl : aB = a7:=(by injection a9);replace aK:=ZC HB.out aK;replace aL:=ZC HB.out aL;replace a2:=eq_true a2;replace a3:=eq_true a3;have a4 : 0 ≤ ((aO) : Int):=odt;have a5 : (aO) < (l0.length : Int):=odt;obtain ⟨a8,bA,aM,aN⟩:=at_T76 a6.out (aO) a4 a5;have aT:=aN;have aU:=aM;obtain rfl : aB = a8:=(by injection bA);replace aM:=ZC HB.out aM;replace aN:=ZC HB.out aN
           replace a4:=eq_true a4;replace a5:=eq_true a5
           refine start_ (n:=36) (S:=fun w' => w'.cell? (aB.add ((aA).toNat * 2)) = some (.int .i64 ((rd_T76 l0 aA).f0)) ∧ w'.cell? ⟨(aB.add ((aA).toNat * 2)).block,(aB.add ((aA).toNat * 2)).off + 1,none⟩ = some (.int .i64 ((rd_T76 l0 aA).f1)) ∧ w'.cell? (aB.add ((aA).toNat * 2)) = some (.int .i64 ((rd_T76 l0 aA).f0)) ∧ w'.cell? ⟨(aB.add ((aA).toNat * 2)).block,(aB.add ((aA).toNat * 2)).off + 1,none⟩ = some (.int .i64 ((rd_T76 l0 aA).f1)) ∧ w'.cell? (aB.add ((aA).toNat * 2)) = some (.int .i64 ((rd_T76 l0 aA).f0)) ∧ w'.cell? ⟨(aB.add ((aA).toNat * 2)).block,(aB.add ((aA).toNat * 2)).off + 1,none⟩ = some (.int .i64 ((rd_T76 l0 aA).f1)) ∧ w'.cell? (aB.add (((aO)).toNat * 2)) = some (.int .i64 ((rd_T76 l0 (aO)).f0)) ∧ w'.cell? ⟨(aB.add (((aO)).toNat * 2)).block,(aB.add (((aO)).toNat * 2)).off + 1,none⟩ = some (.int .i64 ((rd_T76 l0 (aO)).f1))) (ds:=[]) M76 (by kernel_rfl) rfl rfl ⟨(ZC HB.out aH :),(ZC HB.out aG :),(ZC HB.out aJ :),(ZC HB.out aI :),(ZC HB.out aS :),(ZC HB.out aR :),(ZC HB.out aU :),(ZC HB.out aT :)⟩ (fun hHeld => ?_);refine with_tabW spec_validOns.tab4 spec_validOns.bits4 (fun HT_ HW_ => ?_)
           generalize wr.drew = bU at HB aC aD aE aF aK aL aM aN hHeld ⊢;refine pU 0 12 M77 ?_;refine pU 1 13 M78 ?_;refine pU 2 14 M79 ?_;refine pU 3 15 M80 ?_;refine tU 4 16 M81 ?_ (y:=Z62)
           refine oU 5 (some 17) M82 (fun K hK => ?_)
           refine goes_ Try.func17 (by kernel_rfl) rfl #[.int .i64 ((rd_T76 l0 aA).f0),.int .i64 0,.int .i64 2] (by rfl) rfl rfl Z25 ?_
           with_reducible refine (spec_inRange.calls ((rd_T76 l0 aA).f0) 0 2 true _ A5.out).mono ?_
           rintro e w' ⟨rfl,⟨nd,rfl⟩⟩
           refine ⟨_,rfl,?_⟩
           refine hK.out _ _ ⟨(ZC HB.out aH :),(ZC HB.out aG :),(ZC HB.out aJ :),(ZC HB.out aI :),(ZC HB.out aS :),(ZC HB.out aR :),(ZC HB.out aU :),(ZC HB.out aT :)⟩ (fun hHeld => ?_)
           clear hK K
           refine norm_ (a':=?_) ?_ ?_
           rotate_left;(·exact Z57);refine pU 6 18 M83 ?_;refine pU 7 19 M84 ?_;refine pU 8 20 M85 ?_;refine pU 9 21 M86 ?_;refine pU 10 22 M87 ?_;refine pU 11 23 M88 ?_;refine pU 13 25 M89 ?_;refine pU 14 26 M90 ?_;refine tU 12 24 M91 ?_ (y:=Z62)
           refine oU 15 (some 27) M92 (fun K hK => ?_)
           refine goes_ Try.func17 (by kernel_rfl) rfl #[.int .i64 ((rd_T76 l0 aA).f1),.int .i64 0,.int .i64 (wrap64 (a1 - 1))] (by rfl) rfl rfl Z25 ?_
           with_reducible refine (spec_inRange.calls ((rd_T76 l0 aA).f1) 0 (wrap64 (a1 - 1)) true _ A7.out).mono ?_
           rintro e w' ⟨rfl,⟨nd,rfl⟩⟩
           refine ⟨_,rfl,?_⟩
           refine hK.out _ _ ⟨(ZC HB.out aH :),(ZC HB.out aG :),(ZC HB.out aJ :),(ZC HB.out aI :),(ZC HB.out aS :),(ZC HB.out aR :),(ZC HB.out aU :),(ZC HB.out aT :)⟩ (fun hHeld => ?_)
           clear hK K
           refine norm_ (a':=?_) ?_ ?_
           rotate_left;(·exact Z68);refine pU 16 28 M93 ?_;refine pU 17 29 M94 ?_;refine pU 18 30 M95 ?_;refine pU 19 31 M96 ?_;refine pU 20 32 M97 ?_;refine pU 21 33 M98 ?_;refine pU 22 34 M99 ?_;refine pU 23 35 M100 ?_;refine pU 24 36 M101 ?_;refine pU 25 37 M102 ?_;refine pU 27 39 M103 ?_;refine pU 28 40 M104 ?_;refine pU 29 41 M105 ?_;refine pU 30 42 M106 ?_;refine pU 31 43 M107 ?_;refine tU 26 38 M108 ?_ (y:=Z62);refine tU 32 44 M109 ?_ (y:=Z62);refine pU 33 45 M110 ?_;refine pU 34 46 M111 ?_;refine pU 35 47 M112 ?_
           refine done_ (done_of HT_.out (by kernel_rfl)) ?_
           try go_wp2
           go_roundg k1
           case measure => have:=bD.out;omega
           case rel => exact ⟨(wrap64 (aA + 1)),Z22,H',⟨by have:=bD.out;omega⟩,⟨Z2⟩⟩
         ·rw [if_neg bF] at H
          exact absurd H (by simp)
        ·rw [if_neg bE] at H
         exact absurd H (by simp)
       ·rw [if_neg c9] at H
        have bJ : decide (0 < aA) = false:=df c9;clear c9;have H':=A_ H;clear H
        try go_wp2
        replace HB:=A_ (below_drew1 HB.out);have aP : 0 ≤ (aA : Int):=odt;have aQ : aA < (l0.length : Int):=odt;obtain ⟨aB,aZ,aC,aD⟩:=at_T76 a6.out aA aP aQ;have aG:=aD;have aH:=aC;cases aZ;replace aC:=ZC HB.out aC;replace aD:=ZC HB.out aD;replace aP:=eq_true aP;replace aQ:=eq_true aQ;have aV : 0 ≤ (aA : Int):=odt;have aW : aA < (l0.length : Int):=odt;obtain ⟨aX,a0,aE,aF⟩:=at_T76 a6.out aA aV aW;have aI:=aF;have aJ:=aE;obtain rfl : aB = aX:=(by injection a0);replace aE:=ZC HB.out aE;replace aF:=ZC HB.out aF;replace aV:=eq_true aV;replace aW:=eq_true aW
        refine start_ (n:=36) (S:=fun w' => w'.cell? (aB.add ((aA).toNat * 2)) = some (.int .i64 ((rd_T76 l0 aA).f0)) ∧ w'.cell? ⟨(aB.add ((aA).toNat * 2)).block,(aB.add ((aA).toNat * 2)).off + 1,none⟩ = some (.int .i64 ((rd_T76 l0 aA).f1)) ∧ w'.cell? (aB.add ((aA).toNat * 2)) = some (.int .i64 ((rd_T76 l0 aA).f0)) ∧ w'.cell? ⟨(aB.add ((aA).toNat * 2)).block,(aB.add ((aA).toNat * 2)).off + 1,none⟩ = some (.int .i64 ((rd_T76 l0 aA).f1))) (ds:=[]) M76 (by kernel_rfl) rfl rfl ⟨(ZC HB.out aH :),(ZC HB.out aG :),(ZC HB.out aJ :),(ZC HB.out aI :)⟩ (fun hHeld => ?_);refine with_tabW spec_validOns.tab4 spec_validOns.bits4 (fun HT_ HW_ => ?_)
        generalize wr.drew = bV at HB aC aD aE aF hHeld ⊢;refine pU 0 12 M77 ?_;refine pU 1 13 M78 ?_;refine pU 2 14 M79 ?_;refine pU 3 15 M80 ?_;refine tU 4 16 M81 ?_ (y:=Z59)
        refine oU 5 (some 17) M82 (fun K hK => ?_)
        refine goes_ Try.func17 (by kernel_rfl) rfl #[.int .i64 ((rd_T76 l0 aA).f0),.int .i64 0,.int .i64 2] (by rfl) rfl rfl Z25 ?_
        with_reducible refine (spec_inRange.calls ((rd_T76 l0 aA).f0) 0 2 true _ A5.out).mono ?_
        rintro e w' ⟨rfl,⟨nd,rfl⟩⟩
        refine ⟨_,rfl,?_⟩
        refine hK.out _ _ ⟨(ZC HB.out aH :),(ZC HB.out aG :),(ZC HB.out aJ :),(ZC HB.out aI :)⟩ (fun hHeld => ?_)
        clear hK K
        refine norm_ (a':=?_) ?_ ?_
        rotate_left;(·exact Z57);refine pU 6 18 M83 ?_;refine pU 7 19 M84 ?_;refine pU 8 20 M85 ?_;refine pU 9 21 M86 ?_;refine pU 10 22 M87 ?_;refine pU 11 23 M88 ?_;refine pU 13 25 M89 ?_;refine pU 14 26 M90 ?_;refine tU 12 24 M91 ?_ (y:=Z59)
        refine oU 15 (some 27) M92 (fun K hK => ?_)
        refine goes_ Try.func17 (by kernel_rfl) rfl #[.int .i64 ((rd_T76 l0 aA).f1),.int .i64 0,.int .i64 (wrap64 (a1 - 1))] (by rfl) rfl rfl Z25 ?_
        with_reducible refine (spec_inRange.calls ((rd_T76 l0 aA).f1) 0 (wrap64 (a1 - 1)) true _ A7.out).mono ?_
        rintro e w' ⟨rfl,⟨nd,rfl⟩⟩
        refine ⟨_,rfl,?_⟩
        refine hK.out _ _ ⟨(ZC HB.out aH :),(ZC HB.out aG :),(ZC HB.out aJ :),(ZC HB.out aI :)⟩ (fun hHeld => ?_)
        clear hK K
        refine norm_ (a':=?_) ?_ ?_
        rotate_left;(·exact Z68);refine pU 16 28 M93 ?_;refine pU 17 29 M94 ?_;refine pU 18 30 M95 ?_;refine pU 19 31 M96 ?_;refine pU 20 32 M97 ?_;refine pU 21 33 M98 ?_;refine pN 22 34 M99 ?_;refine pN 23 35 M100 ?_;refine pN 24 36 M101 ?_;refine pN 25 37 M102 ?_;refine pN 26 38 M113 ?_;refine pN 27 39 M114 ?_;refine pN 28 40 M115 ?_;refine pN 29 41 M116 ?_;refine pN 30 42 M117 ?_;refine pN 31 43 M108 ?_;refine pN 32 44 M109 ?_;refine pN 33 45 M110 ?_;refine pU 34 46 M111 ?_;refine pU 35 47 M112 ?_
        refine done_ (done_of HT_.out (by kernel_rfl)) ?_
        try go_wp2
        go_roundg k1
        case measure => have:=bD.out;omega
        case rel => exact ⟨(wrap64 (aA + 1)),Z22,H',⟨by have:=bD.out;omega⟩,⟨Z2⟩⟩
      ·replace c8:=Bool.eq_false_iff.mpr c8
       subst c8;rw [if_neg (show ¬ (false = true) by decide)] at H;obtain rfl:=Option.some.inj H
       try go_wp2
       replace HB:=A_ (below_drew1 HB.out);have aP : 0 ≤ (aA : Int):=odt;have aQ : aA < (l0.length : Int):=odt;obtain ⟨aB,aZ,aC,aD⟩:=at_T76 a6.out aA aP aQ;have aG:=aD;have aH:=aC;cases aZ;replace aC:=ZC HB.out aC;replace aD:=ZC HB.out aD;replace aP:=eq_true aP;replace aQ:=eq_true aQ;have aV : 0 ≤ (aA : Int):=odt;have aW : aA < (l0.length : Int):=odt;obtain ⟨aX,a0,aE,aF⟩:=at_T76 a6.out aA aV aW;have aI:=aF;have aJ:=aE;obtain rfl : aB = aX:=(by injection a0);replace aE:=ZC HB.out aE;replace aF:=ZC HB.out aF;replace aV:=eq_true aV;replace aW:=eq_true aW
       refine start_ (n:=36) (S:=fun w' => w'.cell? (aB.add ((aA).toNat * 2)) = some (.int .i64 ((rd_T76 l0 aA).f0)) ∧ w'.cell? ⟨(aB.add ((aA).toNat * 2)).block,(aB.add ((aA).toNat * 2)).off + 1,none⟩ = some (.int .i64 ((rd_T76 l0 aA).f1)) ∧ w'.cell? (aB.add ((aA).toNat * 2)) = some (.int .i64 ((rd_T76 l0 aA).f0)) ∧ w'.cell? ⟨(aB.add ((aA).toNat * 2)).block,(aB.add ((aA).toNat * 2)).off + 1,none⟩ = some (.int .i64 ((rd_T76 l0 aA).f1))) (ds:=[]) M76 (by kernel_rfl) rfl rfl ⟨(ZC HB.out aH :),(ZC HB.out aG :),(ZC HB.out aJ :),(ZC HB.out aI :)⟩ (fun hHeld => ?_);refine with_tabW spec_validOns.tab4 spec_validOns.bits4 (fun HT_ HW_ => ?_)
       generalize wr.drew = bW at HB aC aD aE aF hHeld ⊢;refine pU 0 12 M77 ?_;refine pU 1 13 M78 ?_;refine pU 2 14 M79 ?_;refine pU 3 15 M80 ?_;refine tU 4 16 M81 ?_ (y:=Z59)
       refine oU 5 (some 17) M82 (fun K hK => ?_)
       refine goes_ Try.func17 (by kernel_rfl) rfl #[.int .i64 ((rd_T76 l0 aA).f0),.int .i64 0,.int .i64 2] (by rfl) rfl rfl Z25 ?_
       with_reducible refine (spec_inRange.calls ((rd_T76 l0 aA).f0) 0 2 true _ A5.out).mono ?_
       rintro e w' ⟨rfl,⟨nd,rfl⟩⟩
       refine ⟨_,rfl,?_⟩
       refine hK.out _ _ ⟨(ZC HB.out aH :),(ZC HB.out aG :),(ZC HB.out aJ :),(ZC HB.out aI :)⟩ (fun hHeld => ?_)
       clear hK K
       refine norm_ (a':=?_) ?_ ?_
       rotate_left;(·exact Z57);refine pU 6 18 M83 ?_;refine pU 7 19 M84 ?_;refine pU 8 20 M85 ?_;refine pU 9 21 M86 ?_;refine pU 10 22 M87 ?_;refine pU 11 23 M88 ?_;refine pU 13 25 M89 ?_;refine pU 14 26 M90 ?_;refine tU 12 24 M91 ?_ (y:=Z59)
       refine oU 15 (some 27) M92 (fun K hK => ?_)
       refine goes_ Try.func17 (by kernel_rfl) rfl #[.int .i64 ((rd_T76 l0 aA).f1),.int .i64 0,.int .i64 (wrap64 (a1 - 1))] (by rfl) rfl rfl Z25 ?_
       with_reducible refine (spec_inRange.calls ((rd_T76 l0 aA).f1) 0 (wrap64 (a1 - 1)) false _ A7.out).mono ?_
       rintro e w' ⟨rfl,⟨nd,rfl⟩⟩
       refine ⟨_,rfl,?_⟩
       refine hK.out _ _ ⟨(ZC HB.out aH :),(ZC HB.out aG :),(ZC HB.out aJ :),(ZC HB.out aI :)⟩ (fun hHeld => ?_)
       clear hK K
       refine norm_ (a':=?_) ?_ ?_
       rotate_left;(·exact Z68);refine pU 16 28 M93 ?_;refine pU 17 29 M94 ?_;refine pU 18 30 M95 ?_;refine pN 19 31 M96 ?_;refine pN 20 32 M97 ?_;refine pN 21 33 M98 ?_;refine pN 22 34 M99 ?_;refine pN 23 35 M100 ?_;refine pN 24 36 M101 ?_;refine pN 25 37 M102 ?_;refine pN 26 38 M113 ?_;refine pN 27 39 M114 ?_;refine pN 28 40 M115 ?_;refine pN 29 41 M116 ?_;refine pN 30 42 M117 ?_;refine pN 31 43 M108 ?_;refine pN 32 44 M109 ?_;refine pN 33 45 M110 ?_;refine pN 34 46 M111 ?_;refine pU 35 47 M112 ?_
       refine done_ (done_of HT_.out (by kernel_rfl)) ?_
       try go_wp2
       go_ret
       exact ⟨Z12,Z2⟩
     ·replace c6:=Bool.eq_false_iff.mpr c6
      subst c6;rw [if_neg (show ¬ (false = true) by decide)] at H;obtain rfl:=Option.some.inj H
      try go_wp2
      replace HB:=A_ (below_drew1 HB.out);have aP : 0 ≤ (aA : Int):=odt;have aQ : aA < (l0.length : Int):=odt;obtain ⟨aB,aZ,aC,aD⟩:=at_T76 a6.out aA aP aQ;have aG:=aD;have aH:=aC;cases aZ;replace aC:=ZC HB.out aC;replace aD:=ZC HB.out aD;replace aP:=eq_true aP;replace aQ:=eq_true aQ
      refine start_ (n:=36) (S:=fun w' => w'.cell? (aB.add ((aA).toNat * 2)) = some (.int .i64 ((rd_T76 l0 aA).f0)) ∧ w'.cell? ⟨(aB.add ((aA).toNat * 2)).block,(aB.add ((aA).toNat * 2)).off + 1,none⟩ = some (.int .i64 ((rd_T76 l0 aA).f1))) (ds:=[]) M76 (by kernel_rfl) rfl rfl ⟨(ZC HB.out aH :),(ZC HB.out aG :)⟩ (fun hHeld => ?_);refine with_tabW spec_validOns.tab4 spec_validOns.bits4 (fun HT_ HW_ => ?_)
      generalize wr.drew = bX at HB aC aD hHeld ⊢;refine pU 0 12 M77 ?_;refine pU 1 13 M78 ?_;refine pU 2 14 M79 ?_;refine pU 3 15 M80 ?_;refine take_ (i:=4) (N:=some 16) (v:=?_) (a':=?_) M81 rfl rfl (take_ofW HT_.out HW_.out (by kernel_rfl)) ZF (Or.inl ⟨by rfl,?_⟩) hHeld ?_ ?_;rotate_left
      ·rintro w' ⟨s0,s1⟩
       go_simp
       with_reducible rfl
      rotate_left;(·exact Z0)
      refine oU 5 (some 17) M82 (fun K hK => ?_)
      refine goes_ Try.func17 (by kernel_rfl) rfl #[.int .i64 ((rd_T76 l0 aA).f0),.int .i64 0,.int .i64 2] (by rfl) rfl rfl Z25 ?_
      with_reducible refine (spec_inRange.calls ((rd_T76 l0 aA).f0) 0 2 false _ A5.out).mono ?_
      rintro e w' ⟨rfl,⟨nd,rfl⟩⟩
      refine ⟨_,rfl,?_⟩
      refine hK.out _ _ ⟨(ZC HB.out aH :),(ZC HB.out aG :)⟩ (fun hHeld => ?_)
      clear hK K
      refine norm_ (a':=?_) ?_ ?_
      rotate_left;(·exact Z57);refine pU 6 18 M83 ?_;refine pU 7 19 M84 ?_;refine pN 8 20 M85 ?_;refine pN 9 21 M86 ?_;refine pN 10 22 M87 ?_;refine pN 11 23 M88 ?_;refine pN 12 24 #[T,T,T,T,T,T,T,T,T,T,T,T,T,F,F,F,F,F,F,F,F,F,F,F,F,F,F,F,F,F,F,F,F,F,F,F] ?_;refine pN 13 25 #[T,T,T,T,T,T,T,T,T,T,T,T,T,T,F,F,F,F,F,F,F,F,F,F,F,F,F,F,F,F,F,F,F,F,F,F] ?_;refine pN 14 26 M91 ?_;refine pN 15 27 M92 ?_;refine pN 16 28 M93 ?_;refine pU 17 29 M94 ?_;refine pU 18 30 M95 ?_;refine pN 19 31 M96 ?_;refine pN 20 32 M97 ?_;refine pN 21 33 M98 ?_;refine pN 22 34 M99 ?_;refine pN 23 35 M100 ?_;refine pN 24 36 M101 ?_;refine pN 25 37 M102 ?_;refine pN 26 38 M113 ?_;refine pN 27 39 M114 ?_;refine pN 28 40 M115 ?_;refine pN 29 41 M116 ?_;refine pN 30 42 M117 ?_;refine pN 31 43 M108 ?_;refine pN 32 44 M109 ?_;refine pN 33 45 M110 ?_;refine pN 34 46 M111 ?_;refine pU 35 47 M112 ?_
      refine done_ (done_of HT_.out (by kernel_rfl)) ?_
      try go_wp2
      go_ret
      exact ⟨Z12,Z2⟩
    ·rw [if_neg c4] at H
     exact absurd H (by simp)
   ·rw [if_neg c3] at H
    have bG:=df c3;clear c3;obtain rfl:=Option.some.inj H
    go_wp2
    go_ret
    exact ⟨Z12,Z2⟩
end Go.Proofs.Ytmgdjmeoljepgaa.PFnProgBelow
