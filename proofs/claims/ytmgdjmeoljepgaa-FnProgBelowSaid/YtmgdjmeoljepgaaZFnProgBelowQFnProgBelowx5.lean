/- Walks (lines of the print; no condition). -/
import Derived.Test.YtmgdjmeoljepgaaZFnProgBelowQFnProgBelowx2
namespace Go.Proofs.Ytmgdjmeoljepgaa.PFnProgBelow
open Go.RowKit Go.Proofs.YtmgdjmeoljepgaaW.PrintWords Go.Proofs.YtmgdjmeoljepgaaW.PrintLast Go.Proofs.YtmgdjmeoljepgaaW.PrintMore
attribute [local go_sem] max2_int min2_int max_two min_two max_three min_three max_four min_four
set_option linter.unusedVariables false
set_option linter.unusedSimpArgs false
def spec_validNames.l0 : Nat → List Int → Int → Option (Bool)
 | 0,_,_ => none
 | k + 1,x0,x3 => if x3 < (x0.length : Int) then (if 0 ≤ x3 then ((spec_inRange.f (rd x0 x3) 0 3).bind fun aA => (if aA = true then (if x3 > 0 then (if 0 ≤ (wrap64 (x3 - 1)) then (if (wrap64 (x3 - 1)) < (x0.length : Int) then (if (rd x0 x3) ≤ (rd x0 (wrap64 (x3 - 1))) then (some false) else (spec_validNames.l0 k x0 (wrap64 (x3 + 1)))) else (none)) else (none)) else (spec_validNames.l0 k x0 (wrap64 (x3 + 1)))) else (some false))) else (none)) else (some true)
def spec_validNames.f (k : Nat) (l0 : List Int) : Option (Bool):=spec_validNames.l0 k l0 0
set_option maxHeartbeats 8000000 in
set_option maxRecDepth 100000 in
theorem spec_validNames.calls (k : Nat) (A0 : Option Addr) (c0 : Nat) (l0 : List Int) (r : Bool) (w : World) (aY : Kd.C (Kd.int .i64) w A0 l0.length l0) (hc0 : l0.length ≤ c0) (h : spec_validNames.f k l0 = some r) :
  Calls Try.prog 51 #[.slice A0 l0.length c0] w fun e w' => e = .returned (.bool r) ∧ Drawn0 w w':=by
 have aQ:=A_ aY;have a5:=A_ hc0;clear aY hc0;have H:=h;unfold spec_validNames.f at H;clear h;have H':=A_ H;clear H
 go_enter Try.func51,Try.ntmps51
 go_wp2
 repeat (go_quiet (fail);try go_wp2)
 go_loopg [3] k (fun kq v3 w' => ∃ (aA : Int),v3 = .int .i64 aA ∧ Aside0 (spec_validNames.l0 kq l0 aA = some r) ∧ Aside0 (kq ≤ k) ∧ Drawn0 w w')
 case atStart => exact ⟨(0),Z22,H',⟨Nat.le_refl _⟩,Z34⟩
 case round =>
  clear H';obtain ⟨aA,rfl,HA,aU,⟨m1,rfl⟩⟩:=hrel
  cases gk with
  | zero => exact absurd HA.out (by simp [spec_validNames.l0])
  | succ k1 =>
   have H:=HA.out;clear HA;simp only [spec_validNames.l0] at H
   by_cases c2 : aA < (l0.length : Int)
   ·rw [if_pos c2] at H
    have aV:=dt c2;clear c2
    by_cases c3 : 0 ≤ aA
    ·rw [if_pos c3] at H
     have a2:=dt c3;clear c3;replace H:=bS H;obtain ⟨aW,aZ,H⟩:=H
     try dsimp only at H
     have A4:=A_ aZ;clear aZ
     by_cases c5 : aW = true
     ·subst c5
      rw [if_pos rfl] at H
      by_cases c6 : aA > 0
      ·rw [if_pos c6] at H
       have aX : decide (0 < aA) = true:=dt c6;clear c6;obtain ⟨aO,aS⟩ : ∃ j_ : Int,(wrap64 (aA - 1)) = j_:=⟨_,rfl⟩
       first | rw [aS] at H | simp only [aS] at H
       (try rw [aS] at A4);have a0 : (IntKind.i64.wrap (aA - 1)) = aO:=(i64_w _).trans aS
       by_cases c8 : 0 ≤ (aO)
       ·rw [if_pos c8] at H
        have a3:=dt c8;clear c8
        by_cases c9 : (aO) < (l0.length : Int)
        ·rw [if_pos c9] at H
         have a4:=dt c9;clear c9
         by_cases c10 : (rd l0 aA) ≤ (rd l0 (aO))
         ·rw [if_pos c10] at H
          have aT:=dt c10;clear c10;obtain rfl:=Option.some.inj H;have aI : 0 ≤ (aA : Int):=odt;have aJ : aA < (l0.length : Int):=odt;obtain ⟨aB,aR,aP⟩:=Kd.at_int aQ.out aA aI aJ;cases aR;replace aI:=eq_true aI;replace aJ:=eq_true aJ
          go_wp2_with (first | (go_at_call 17;(with_reducible refine (spec_inRange.calls (rd l0 aA) 0 3 true _ A4.out).mono ?_);rintro e w' ⟨rfl,⟨nd,rfl⟩⟩;(try first | exact ⟨rfl,_,World.drewN_drewN _ _ _⟩ | exact ⟨rfl,_,Eq.trans (World.drewN_drewN _ _ _) (congrArg (World.drewN _) (Nat.add_assoc _ _ _))⟩);have aC : 0 ≤ (aA : Int):=odt;have aD : aA < (l0.length : Int):=odt;obtain ⟨aG,aM,aK⟩:=Kd.at_int aQ.out aA aC aD;obtain rfl : aB = aG:=(by injection aM);replace aC:=eq_true aC;replace aD:=eq_true aD;have aE : 0 ≤ ((aO) : Int):=odt;have aF : (aO) < (l0.length : Int):=odt;obtain ⟨aH,aN,aL⟩:=Kd.at_int aQ.out (aO) aE aF;obtain rfl : aB = aH:=(by injection aN);replace aE:=eq_true aE;replace aF:=eq_true aF))
          repeat (go_quiet (first | (go_at_call 17;(with_reducible refine (spec_inRange.calls (rd l0 aA) 0 3 true _ A4.out).mono ?_);rintro e w' ⟨rfl,⟨nd,rfl⟩⟩;(try first | exact ⟨rfl,_,World.drewN_drewN _ _ _⟩ | exact ⟨rfl,_,Eq.trans (World.drewN_drewN _ _ _) (congrArg (World.drewN _) (Nat.add_assoc _ _ _))⟩);have aC : 0 ≤ (aA : Int):=odt;have aD : aA < (l0.length : Int):=odt;obtain ⟨aG,aM,aK⟩:=Kd.at_int aQ.out aA aC aD;obtain rfl : aB = aG:=(by injection aM);replace aC:=eq_true aC;replace aD:=eq_true aD;have aE : 0 ≤ ((aO) : Int):=odt;have aF : (aO) < (l0.length : Int):=odt;obtain ⟨aH,aN,aL⟩:=Kd.at_int aQ.out (aO) aE aF;obtain rfl : aB = aH:=(by injection aN);replace aE:=eq_true aE;replace aF:=eq_true aF));try go_wp2_with (first | (go_at_call 17;(with_reducible refine (spec_inRange.calls (rd l0 aA) 0 3 true _ A4.out).mono ?_);rintro e w' ⟨rfl,⟨nd,rfl⟩⟩;(try first | exact ⟨rfl,_,World.drewN_drewN _ _ _⟩ | exact ⟨rfl,_,Eq.trans (World.drewN_drewN _ _ _) (congrArg (World.drewN _) (Nat.add_assoc _ _ _))⟩);have aC : 0 ≤ (aA : Int):=of_decide_eq_true (by first | (with_reducible assumption) | assumption);have aD : aA < (l0.length : Int):=of_decide_eq_true (by first | (with_reducible assumption) | assumption);obtain ⟨aG,aM,aK⟩:=Kd.at_int aQ.out aA aC aD;obtain rfl : aB = aG:=(by injection aM);replace aC:=eq_true aC;replace aD:=eq_true aD;have aE : 0 ≤ ((aO) : Int):=of_decide_eq_true (by first | (with_reducible assumption) | assumption);have aF : (aO) < (l0.length : Int):=of_decide_eq_true (by first | (with_reducible assumption) | assumption);obtain ⟨aH,aN,aL⟩:=Kd.at_int aQ.out (aO) aE aF;obtain rfl : aB = aH:=(by injection aN);replace aE:=eq_true aE;replace aF:=eq_true aF)))
          go_ret
          exact ⟨by first | rfl | (simp;done) | (simp only [← aS] <;> (first | rfl | simp)) | (simp [*];done),Z34⟩
         ·rw [if_neg c10] at H
          have aT:=df c10;clear c10;have H':=A_ H;clear H;have aI : 0 ≤ (aA : Int):=odt;have aJ : aA < (l0.length : Int):=odt;obtain ⟨aB,aR,aP⟩:=Kd.at_int aQ.out aA aI aJ;cases aR;replace aI:=eq_true aI;replace aJ:=eq_true aJ
          go_wp2_with (first | (go_at_call 17;(with_reducible refine (spec_inRange.calls (rd l0 aA) 0 3 true _ A4.out).mono ?_);rintro e w' ⟨rfl,⟨nd,rfl⟩⟩;(try first | exact ⟨rfl,_,World.drewN_drewN _ _ _⟩ | exact ⟨rfl,_,Eq.trans (World.drewN_drewN _ _ _) (congrArg (World.drewN _) (Nat.add_assoc _ _ _))⟩);have aC : 0 ≤ (aA : Int):=odt;have aD : aA < (l0.length : Int):=odt;obtain ⟨aG,aM,aK⟩:=Kd.at_int aQ.out aA aC aD;obtain rfl : aB = aG:=(by injection aM);replace aC:=eq_true aC;replace aD:=eq_true aD;have aE : 0 ≤ ((aO) : Int):=odt;have aF : (aO) < (l0.length : Int):=odt;obtain ⟨aH,aN,aL⟩:=Kd.at_int aQ.out (aO) aE aF;obtain rfl : aB = aH:=(by injection aN);replace aE:=eq_true aE;replace aF:=eq_true aF))
          repeat (go_quiet (first | (go_at_call 17;(with_reducible refine (spec_inRange.calls (rd l0 aA) 0 3 true _ A4.out).mono ?_);rintro e w' ⟨rfl,⟨nd,rfl⟩⟩;(try first | exact ⟨rfl,_,World.drewN_drewN _ _ _⟩ | exact ⟨rfl,_,Eq.trans (World.drewN_drewN _ _ _) (congrArg (World.drewN _) (Nat.add_assoc _ _ _))⟩);have aC : 0 ≤ (aA : Int):=odt;have aD : aA < (l0.length : Int):=odt;obtain ⟨aG,aM,aK⟩:=Kd.at_int aQ.out aA aC aD;obtain rfl : aB = aG:=(by injection aM);replace aC:=eq_true aC;replace aD:=eq_true aD;have aE : 0 ≤ ((aO) : Int):=odt;have aF : (aO) < (l0.length : Int):=odt;obtain ⟨aH,aN,aL⟩:=Kd.at_int aQ.out (aO) aE aF;obtain rfl : aB = aH:=(by injection aN);replace aE:=eq_true aE;replace aF:=eq_true aF));try go_wp2_with (first | (go_at_call 17;(with_reducible refine (spec_inRange.calls (rd l0 aA) 0 3 true _ A4.out).mono ?_);rintro e w' ⟨rfl,⟨nd,rfl⟩⟩;(try first | exact ⟨rfl,_,World.drewN_drewN _ _ _⟩ | exact ⟨rfl,_,Eq.trans (World.drewN_drewN _ _ _) (congrArg (World.drewN _) (Nat.add_assoc _ _ _))⟩);have aC : 0 ≤ (aA : Int):=of_decide_eq_true (by first | (with_reducible assumption) | assumption);have aD : aA < (l0.length : Int):=of_decide_eq_true (by first | (with_reducible assumption) | assumption);obtain ⟨aG,aM,aK⟩:=Kd.at_int aQ.out aA aC aD;obtain rfl : aB = aG:=(by injection aM);replace aC:=eq_true aC;replace aD:=eq_true aD;have aE : 0 ≤ ((aO) : Int):=of_decide_eq_true (by first | (with_reducible assumption) | assumption);have aF : (aO) < (l0.length : Int):=of_decide_eq_true (by first | (with_reducible assumption) | assumption);obtain ⟨aH,aN,aL⟩:=Kd.at_int aQ.out (aO) aE aF;obtain rfl : aB = aH:=(by injection aN);replace aE:=eq_true aE;replace aF:=eq_true aF)))
          go_roundg k1
          case measure => have:=aU.out;omega
          case rel => exact ⟨(wrap64 (aA + 1)),Z22,H',⟨by have:=aU.out;omega⟩,Z34⟩
        ·rw [if_neg c9] at H
         exact absurd H (by simp)
       ·rw [if_neg c8] at H
        exact absurd H (by simp)
      ·rw [if_neg c6] at H
       have aX : decide (0 < aA) = false:=df c6;clear c6;have H':=A_ H;clear H;have aI : 0 ≤ (aA : Int):=odt;have aJ : aA < (l0.length : Int):=odt;obtain ⟨aB,aR,aP⟩:=Kd.at_int aQ.out aA aI aJ;cases aR;replace aI:=eq_true aI;replace aJ:=eq_true aJ
       go_wp2_with (first | (go_at_call 17;(with_reducible refine (spec_inRange.calls (rd l0 aA) 0 3 true _ A4.out).mono ?_);rintro e w' ⟨rfl,⟨nd,rfl⟩⟩;(try first | exact ⟨rfl,_,World.drewN_drewN _ _ _⟩ | exact ⟨rfl,_,Eq.trans (World.drewN_drewN _ _ _) (congrArg (World.drewN _) (Nat.add_assoc _ _ _))⟩)))
       repeat (go_quiet (first | (go_at_call 17;(with_reducible refine (spec_inRange.calls (rd l0 aA) 0 3 true _ A4.out).mono ?_);rintro e w' ⟨rfl,⟨nd,rfl⟩⟩;(try first | exact ⟨rfl,_,World.drewN_drewN _ _ _⟩ | exact ⟨rfl,_,Eq.trans (World.drewN_drewN _ _ _) (congrArg (World.drewN _) (Nat.add_assoc _ _ _))⟩)));try go_wp2_with (first | (go_at_call 17;(with_reducible refine (spec_inRange.calls (rd l0 aA) 0 3 true _ A4.out).mono ?_);rintro e w' ⟨rfl,⟨nd,rfl⟩⟩;(try first | exact ⟨rfl,_,World.drewN_drewN _ _ _⟩ | exact ⟨rfl,_,Eq.trans (World.drewN_drewN _ _ _) (congrArg (World.drewN _) (Nat.add_assoc _ _ _))⟩))))
       go_roundg k1
       case measure => have:=aU.out;omega
       case rel => exact ⟨(wrap64 (aA + 1)),Z22,H',⟨by have:=aU.out;omega⟩,Z34⟩
     ·replace c5:=Bool.eq_false_iff.mpr c5
      subst c5;rw [if_neg (show ¬ (false = true) by decide)] at H;obtain rfl:=Option.some.inj H;have aI : 0 ≤ (aA : Int):=odt;have aJ : aA < (l0.length : Int):=odt;obtain ⟨aB,aR,aP⟩:=Kd.at_int aQ.out aA aI aJ;cases aR;replace aI:=eq_true aI;replace aJ:=eq_true aJ
      go_wp2_with (first | (go_at_call 17;(with_reducible refine (spec_inRange.calls (rd l0 aA) 0 3 false _ A4.out).mono ?_);rintro e w' ⟨rfl,⟨nd,rfl⟩⟩;(try first | exact ⟨rfl,_,World.drewN_drewN _ _ _⟩ | exact ⟨rfl,_,Eq.trans (World.drewN_drewN _ _ _) (congrArg (World.drewN _) (Nat.add_assoc _ _ _))⟩)))
      repeat (go_quiet (first | (go_at_call 17;(with_reducible refine (spec_inRange.calls (rd l0 aA) 0 3 false _ A4.out).mono ?_);rintro e w' ⟨rfl,⟨nd,rfl⟩⟩;(try first | exact ⟨rfl,_,World.drewN_drewN _ _ _⟩ | exact ⟨rfl,_,Eq.trans (World.drewN_drewN _ _ _) (congrArg (World.drewN _) (Nat.add_assoc _ _ _))⟩)));try go_wp2_with (first | (go_at_call 17;(with_reducible refine (spec_inRange.calls (rd l0 aA) 0 3 false _ A4.out).mono ?_);rintro e w' ⟨rfl,⟨nd,rfl⟩⟩;(try first | exact ⟨rfl,_,World.drewN_drewN _ _ _⟩ | exact ⟨rfl,_,Eq.trans (World.drewN_drewN _ _ _) (congrArg (World.drewN _) (Nat.add_assoc _ _ _))⟩))))
      go_ret
      exact ⟨Z22,Z34⟩
    ·rw [if_neg c3] at H
     exact absurd H (by simp)
   ·rw [if_neg c2] at H
    have aV:=df c2;clear c2;obtain rfl:=Option.some.inj H
    go_wp2
    repeat (go_quiet (fail);try go_wp2)
    go_ret
    exact ⟨Z22,Z34⟩
end Go.Proofs.Ytmgdjmeoljepgaa.PFnProgBelow
